/- Walks, part 2. Conditions: with each theorem. -/
import Derived.Test.YtgaodkfneooonaaGreatCK1
import Derived.Laws.StructEq
import Derived.Laws.BytesString
import Derived.MapKept
set_option maxHeartbeats 4000000
set_option linter.defProp false
set_option linter.unusedSectionVars false
set_option linter.unusedSimpArgs false
set_option linter.unusedVariables false
set_option linter.unnecessarySimpa false
section
namespace Go.Kc
variable {σ:Nat->Value} {Z Z':Ren} {P:Program}

def qy{t:TypeId}{d:TypeDesc}(h:P.underlying t=some d)(w:World):(underlying t).run P w = .ok d w:=run_underlying h w
def qdw{t:TypeId}(h:(P.underlying t).isSome=true)(w:World):(isAgg t).run P w = .ok (qay P t) w:=by
 obtain⟨d,hd⟩:=Option.isSome_iff_exists.1 h;unfold isAgg qay;simp only[Sem.run_bind,qy hd,Result.andThen_ok,hd];cases d<;>rfl
def qkv{t:TypeId}(h:qay P t=true):(P.underlying t).isSome=true:=by
 unfold qay at h;split at h<;>simp_all
def qkl{t:TypeId}{n:Nat}(h:zb P t n=true):∃i,P.info? t=some i/\i.size=n:=by
 unfold zb at h
 grind
def qiq{t:TypeId}{n:Nat}(h:qbA P t n=true):∃i,P.info? t=some i/\i.bytes=n:=by
 unfold qbA at h
 grind
def qvU{t:TypeId}{i:TypeInfo}(h:P.info? t=some i)(w:World):(typeInfo t).run P w = .ok i w:=by
 simp[typeInfo,h]
def zQ{t:TypeId}{n:Nat}(h:zb P t n=true)(w:World):(sizeOf t).run P w = .ok n w:=by
 obtain⟨i,hi,rfl⟩:=qkl h;simp[sizeOf,typeInfo,hi]
def qdB{t:TypeId}{z:List AV}(h:qaf P t z=true):∃i v,P.info? t=some i/\i.zero=some v/\qms z v.cells.toList=true/\v.cells.size=i.size:=by
 unfold qaf at h
 grind
def qcN{t:TypeId}{i:TypeInfo}{v:Value}(h:P.info? t=some i)(hz:i.zero=some v)(w:World):(zeroValue t).run P w = .ok v w:=by
 simp[zeroValue,typeInfo,h,hz]

def zV{t e:TypeId}(h:xr P t=some e):P.underlying t=some (.slice e):=by
 unfold xr at h;grind
def qdD{t:TypeId}{n:Nat}{e:TypeId}(h:qhS P t=some (n,e)):P.underlying t=some (.array n e):=by
 unfold qhS at h;grind
def qeI{t:TypeId}{fs:Array Field}(h:fieldsOf P t=some fs):P.underlying t=some (.struct fs):=by
 unfold fieldsOf at h;grind
def qet{t:TypeId}(h:qg8 P t=true):P.underlying t=some .string:=by
 unfold qg8 at h;grind
def qtj{t:TypeId}{k:IntKind}(h:qzq P t k=true):P.underlying t=some (.int k):=by
 unfold qzq at h;grind

def qfu{t:TypeId}(cs:Array Value)(off:Nat)(w:World) :
  (∀{v},qay P t=false->(P.underlying t).isSome=true->cs[off]?=some v->(part t cs off).run P w = .ok v w) /\
  (∀{n},qay P t=true->zb P t n=true->(part t cs off).run P w = .ok (.agg (cs.extract off (off+n))) w):=by
 constructor
 .intro v h1 h2 h3;simp[part,qdw h2,h1,h3]
 .intro n h1 h2;simp[part,qdw (qkv h1),h1,zQ h2]

def VR.un_b{x:Bool}{v:Value}(h:VR σ Z (.b x) v):v = .bool x:=by cases h;rfl
def VR.un_i{q:IntKind}{n:Int}{v:Value}(h:VR σ Z (.i q n) v):v = .int q n:=by cases h;rfl
def VR.un_s{x:List UInt8}{v:Value}(h:VR σ Z (.s x) v):v = .string ⟨x.toArray⟩:=by cases h;rfl
def VR.un_ptr{b o:Nat}{v:Value}(h:VR σ Z (.ptr b o) v):∃L,Z b=some L/\v = .pointer (some ⟨L.blk,L.off+o,none⟩):=by cases h<;>simp_all
def VR.un_sl{b o len cap:Nat}{l:Bool}{v:Value}(h:VR σ Z (.sl b o len cap l) v):∃L c off,Z b=some L/\v = .slice (some ⟨L.blk,off,none⟩) len c /\
  ((off=L.off+o/\(c=cap\/(l=true/\cap<=c/\L.off+o+c*L.esz<=L.size)))\/(len=0/\cap=0/\c=0)):=by
 cases h<;>grind
def VR.un_agg{cs:List AV}{v:Value}(h:VR σ Z (.agg cs) v):∃vs:Array Value,VRs σ Z cs vs.toList/\v = .agg vs:=by cases h<;>simp_all
theorem VR.un_tup{cs:List AV}{v:Value}(h:VR σ Z (.tup cs) v):∃vs:Array Value,VRs σ Z cs vs.toList/\v = .tuple vs:=by cases h<;>simp_all
def VR.un_fn{f:Nat}{a c:List AV}{v:Value}(h:VR σ Z (.fn f a c) v):∃a' c':Array Value,VRs σ Z a a'.toList/\VRs σ Z c c'.toList/\v = .func (.func f) a' c':=by cases h<;>simp_all
def VR.un_yl{b:Nat}{v:Value}(h:VR σ Z (.yl b) v):∃L,Z b=some L/\v = .func (.yield L.blk) #[] #[]:=by cases h<;>simp_all
def VR.un_map{b:Nat}{v:Value}(h:VR σ Z (.map b) v):∃L,Z b=some L/\L.off=0/\v = .map (some L.blk):=by cases h<;>simp_all
theorem VR.un_nils{v:Value}(h:VR σ Z .nils v):v = .slice none 0 0:=by cases h;rfl
def VR.un_fz{n:Nat}{cs:List AV}{v:Value}(h:VR σ Z (.fz n cs) v):(∃k off c arr,v = .slice (some ⟨k,off,none⟩) n c/\n<=c/\Z.frz k=some arr/\CRs σ Z.frz cs ((arr.toList.drop off).take cs.length))\/(n=0/\cs=[]/\∃a,v = .slice a 0 0):=by
 cases h<;>grind
def VR.un_pf{off:Nat}{cs:List AV}{v:Value}(h:VR σ Z (.pf cs off) v):∃k base arr,v = .pointer (some ⟨k,base+off,none⟩)/\Z.frz k=some arr/\CRs σ Z.frz cs ((arr.toList.drop base).take cs.length):=by
 cases h<;>grind
def VR.un_nz{v:Value}(h:VR σ Z .nz v):∃a c,v = .slice (some a) 0 c:=by cases h<;>simp_all
theorem VR.un_e0{v:Value}(h:VR σ Z .e0 v):∃a,v = .slice a 0 0:=by cases h<;>simp_all
def VR.un_own{b n:Nat}{v:Value}(h:VR σ Z (.own b n) v):(n=0/\(∃a,v = .slice a 0 0)/\b<Z.n)\/∃L c,Z b=some L/\n<=c/\L.off+c*L.esz<=L.size/\v = .slice (some ⟨L.blk,L.off,none⟩) n c:=by
 cases h<;>simp_all
def qrQ{p:AV}{p':Value}(hp:VR σ Z p p'){n:Nat}{k:AV->Prop}(hk:qiC p n k):∃c o v,p' = .pointer (some ⟨c,o,none⟩)/\k v/\VR σ Z v (.pointer (some ⟨c,o+n,none⟩)):=by
 cases p<;>try exact hk.elim
 .obtain⟨L,h1,h2⟩:=hp.un_ptr;simp only[qiC,qD]at hk;exact⟨_,_,_,h2,hk,by rw[Nat.add_assoc];exact .ptr _ _ L h1⟩
 .obtain⟨c,base,arr,h1,h2,h4⟩:=hp.un_pf;simp only[qiC,qD]at hk;exact⟨_,_,_,h1,hk,by rw[Nat.add_assoc];exact .pf _ base _ c arr h2 h4⟩
def VR.un_sym{j:Nat}{v:Value}(h:VR σ Z (.sym j) v):v=σ j:=by cases h;rfl
def qxQ{v:AV}{v':Value}(h:VR σ Z v v'){k:Bool->Prop}(hk:unB v k):∃x,v' = .bool x/\k x:=by
 cases v<;>first|exact hk.elim|exact⟨_,h.un_b,hk⟩
def qov{v:AV}{v':Value}(h:VR σ Z v v'){k:IntKind->Int->Prop}(hk:unI v k):∃q x,v' = .int q x/\k q x:=by
 cases v<;>first|exact hk.elim|exact⟨_,_,h.un_i,hk⟩
def qd6{v:AV}{v':Value}(h:VR σ Z v v'){k:Nat->Prop}(hk:unN v k):∃q,∃x:Nat,v' = .int q (x:Int)/\k x:=by
 cases v<;>try exact hk.elim
 rename_i q n;cases n with
 | ofNat m=>exact⟨q,m,h.un_i,hk⟩
 | negSucc m=>exact hk.elim
def qq6{v:AV}{v':Value}(h:VR σ Z v v'){k:Nat->Nat->Prop}(hk:unP v k):∃b o L,Z b=some L/\v' = .pointer (some ⟨L.blk,L.off+o,none⟩)/\k b o:=by
 cases v<;>first|exact hk.elim|(obtain⟨L,h1,h2⟩:=h.un_ptr;exact⟨_,_,L,h1,h2,hk⟩)
theorem qd(x:Bool)(k:Prop):qo x k↔x=true/\k:=by
 cases x
 .exact⟨λh=>h.elim,λh=>by grind⟩
 .exact⟨λh=>⟨rfl,h⟩,λh=>h.2⟩
theorem qe8(x:Bool)(a b:Prop):(Bool.rec (motive:=λ_=>Prop) a b x)↔(x=false/\a)\/(x=true/\b):=by
 cases x<;>simp
def qz7{t:Tr AV}{a:Act}(ht:TR σ Z t a.tmps){x:Option O}{y:Option Operand}(hc:qba y x=true){k:Option AV->Prop}(h:qcG t x k) :
  ∃v,k v/\((v=none/\y=none)\/∃u y',v=some u/\y=some y'/\VR σ Z u (a.eval y')):=by
 cases x<;>cases y<;>simp[qba]at hc
 .exact⟨none,h,.inl ⟨rfl,rfl⟩⟩
 .obtain⟨v,h1,h2⟩:=zd ht hc h
  grind

section ops
variable {B:Nat->Prop} {h:Hp} {w:World} {a:Act} {t:Tr AV} {orc:Orc} {k:AV->Hp->Prop} {o:Oper}

def qwx(r:Rel σ Z B h w)(ht:TR σ Z t a.tmps){x:O}{y:Operand}(ho:o.op = .move y\/o.op = .assign y)(hc:qE y x=true)(hk:opK orc (.mov x) t h k):Res P σ Z B h w (execOp a.eval o) k:=by
 obtain⟨v,h1,h2⟩:=zd ht hc hk;exact Res.pure r h1 (by rcases ho with ho|ho<;>simp[execOp,ho]) h2

def qz9(r:Rel σ Z B h w)(ht:TR σ Z t a.tmps){c x y:O}{c' x' y':Operand}(ho:o.op = .pick c' x' y')(hc1:qE c' c=true)(hc2:qE x' x=true)(hc3:qE y' y=true)(hk:opK orc (.pick c x y) t h k):Res P σ Z B h w (execOp a.eval o) k:=by
 obtain⟨v,h1,h2⟩:=zd ht hc1 hk;obtain⟨b,h3,h4⟩:=qxQ h2 h1;cases b with
 | true=>obtain⟨v,h5,h6⟩:=zd ht hc2 h4;exact Res.pure r h5 (by simp[execOp,ho,h3,asBool]) h6
 | false=>obtain⟨v,h5,h6⟩:=zd ht hc3 h4;exact Res.pure r h5 (by simp[execOp,ho,h3,asBool]) h6

def qwk(r:Rel σ Z B h w)(ht:TR σ Z t a.tmps){x:O}{ty:TypeId}{y:Operand}(ho:o.op = .load ty y)(hc:qE y x=true)(h1:qay P ty=false)(h2:(P.underlying ty).isSome=true)(hk:opK orc (.load1 x) t h k):Res P σ Z B h w (execOp a.eval o) k:=by
 obtain⟨v,h3,h4⟩:=zd ht hc hk;obtain⟨c,off,v,v',h6,h8,h9,h10⟩:=qDg r h4 h3;exact Res.pure r h8 (by simp[execOp,ho,h6,Instr.loadAt,Instr.sureAddr,loadVar,qdw h2,h1,h10]) h9

def qwm(r:Rel σ Z B h w)(ht:TR σ Z t a.tmps){x:O}{n:Nat}{ty:TypeId}{y:Operand}(ho:o.op = .load ty y)(hc:qE y x=true)(h1:qay P ty=true)(h2:zb P ty n=true)(hk:opK orc (.loadN n x) t h k):Res P σ Z B h w (execOp a.eval o) k:=by
 obtain⟨v,h3,h4⟩:=zd ht hc hk;obtain⟨c,off,vs,vs',h6,h8,h9,h10,h11⟩:=qzw r h4 h3;exact Res.pure r h8 (by simp[execOp,ho,h6,Instr.loadAt,Instr.sureAddr,loadVar,qdw (qkv h1),h1,zQ h2,qdp h10 h11]) (.agg _ _ h9)

theorem VRs.cells(hσ:qae σ){v:AV}{v':Value}(hv:VR σ Z v v')(hu:qcR v=true):VRs σ Z (cellsOf v) v'.cells.toList:=by
 have one:∀{v'},VR σ Z v v'->v'.cells = #[v']->cellsOf v=[v]->VRs σ Z (cellsOf v) v'.cells.toList:=by
  intro v' h1 h2 h3;rw[h2,h3];exact .cons _ _ _ _ h1 .nil
 cases hv with
 | undef=>cases hu
 | agg cs cs' h1=>exact h1
 | sym j =>
  refine one (.sym j) ?_ rfl;have:=hσ j;cases hs:σ j<;>simp[hs,Value.oneCell']at this<;>rfl
 | b=>exact one (.b _) rfl rfl
 | i=>exact one (.i _ _) rfl rfl
 | s=>exact one (.s _) rfl rfl
 | nilp=>exact one .nilp rfl rfl
 | ptr b o L h=>exact one (.ptr b o L h) rfl rfl
 | nils=>exact one .nils rfl rfl
 | sl b o len cap c loose L h hc=>exact one (.sl b o len cap c loose L h hc) rfl rfl
 | slz b o x l L h=>exact one (.slz b o x l L h) rfl rfl
 | nilf=>exact one .nilf rfl rfl
 | fn f first cap a1 a2 h1 h2=>exact one (.fn f first cap a1 a2 h1 h2) rfl rfl
 | nili=>exact one .nili rfl rfl
 | ifc t v v' h=>exact one (.ifc t v v' h) rfl rfl
 | tup cs cs' h=>exact one (.tup cs cs' h) rfl rfl
 | nilm=>exact one .nilm rfl rfl
 | map b L h h0=>exact one (.map b L h h0) rfl rfl
 | fz n off c cs k arr hn h hs=>exact one (.fz n off c cs k arr hn h hs) rfl rfl
 | fz0 a=>exact one (.fz0 a) rfl rfl
 | pf off base cs k arr h hs=>exact one (.pf off base cs k arr h hs) rfl rfl
 | e0 a=>exact one (.e0 a) rfl rfl
 | nz a c=>exact one (.nz a c) rfl rfl
 | own0 b a hb=>exact one (.own0 b a hb) rfl rfl
 | own b n c L h hn hc=>exact one (.own b n c L h hn hc) rfl rfl
 | yl b L h=>exact one (.yl b L h) rfl rfl

def quk(r:Rel σ Z B h w){z:List AV}{ty:TypeId}(ho:o.op = .alloc ty)(hc:qaf P ty z=true)(hk:opK orc (.alloc z) t h k):Res P σ Z B h w (execOp a.eval o) k:=by
 obtain⟨i,v,h1,h2,h3,h4⟩:=qdB hc;have hv:=qbX (σ:=σ) (Z:=Z) _ _ h3;have hl:=hv.length;have hk':jz h (.cells 0 true false z) (λb h'=>k (.ptr b 0) h'):=hk
 obtain⟨Z',h',h5,h6,h7,h8⟩:=qeW (w1:={ w with heap:=w.heap.push (.cells v.cells ty) }) r (c:=v.cells) (by grind) hk' rfl;refine⟨_,_,h',Z',_,h5,.inl (?_:_=Result.ok (Next.value (.pointer (some ⟨w.heap.size,0,none⟩))) { w with heap:=w.heap.push (.cells v.cells ty) }),.ptr _ 0 _ h8,h6,h7⟩;simp[execOp,ho,Instr.alloc,qcN h1 h2,newVar,newRow]

def qCe(hσ:qae σ)(r:Rel σ Z B h w)(ht:TR σ Z t a.tmps){x:O}{y:Operand}{ty:TypeId}(ho:o.op = .box ty y)(hc:qE y x=true)(hk:opK orc (.box x) t h k):Res P σ Z B h w (execOp a.eval o) k:=by
 obtain⟨v,h1,h2⟩:=zd ht hc hk;obtain⟨hd,h1⟩:=(qd _ _).1 h1;have hv:=VRs.cells hσ h2 hd;have hl:=hv.length;obtain⟨Z',h',h5,h6,h7,h8⟩:=qeW (w1:={ w with heap:=w.heap.push (.cells (a.eval y).cells ty) }) r (c:=(a.eval y).cells) (by grind) h1 rfl;refine⟨_,_,h',Z',_,h5,.inl (?_:_=Result.ok (Next.value (.pointer (some ⟨w.heap.size,0,none⟩))) { w with heap:=w.heap.push (.cells (a.eval y).cells ty) }),.ptr _ 0 _ h8,h6,h7⟩;simp[execOp,ho,Instr.box,newVar,newRow]

def qqd(hσ:qae σ)(r:Rel σ Z B h w)(ht:TR σ Z t a.tmps){x v:O}{n:Nat}{y u:Operand}{ty:TypeId}(ho:o.op = .store ty y u)(hc:qE y x=true)(hc2:qE u v=true)(hs:zb P ty n=true)(hk:opK orc (.store n x v) t h k):Res P σ Z B h w (execOp a.eval o) k:=by
 obtain⟨p,h1,h2⟩:=zd ht hc hk;obtain⟨b,off,L,h3,h4,h5⟩:=qq6 h2 h1;obtain⟨q,h6,h7⟩:=zd ht hc2 h5;obtain⟨hd,h6⟩:=(qd _ _).1 h6;rw[wj]at h6;obtain⟨hn,h6⟩:=(qd _ _).1 h6;have hv:=VRs.cells hσ h7 hd;have hl:=hv.length;obtain⟨h',w',h8,h9,h10,h11⟩:=qxD (P:=P) hσ r h3 hv h6;refine⟨_,_,h',Z,w',h8,.inr ⟨?_,rfl⟩,.undef _,h9,h10⟩;have hn':(cellsOf q).length=n:=by simp_all
 have hsz:(a.eval u).cells.size=n:=by simp_all
 simp[execOp,ho,h4,Instr.storeAt,Instr.sureAddr,storeVar,zQ hs,h11,hsz]

def qtH(r:Rel σ Z B h w)(ht:TR σ Z t a.tmps){x:O}{y:Operand}(ho:o.op = .nilCheck y)(hc:qE y x=true)(hk:opK orc (.nilChk x) t h k):Res P σ Z B h w (execOp a.eval o) k:=by
 obtain⟨v,h1,h2⟩:=zd ht hc hk;cases v<;>try exact h1.elim
 .obtain⟨L,h3,h4⟩:=h2.un_ptr;exact Res.pure r h1 (by simp[execOp,ho,h4]) (.ptr _ _ L h3)
 .obtain⟨a',c',h3,h4,h5⟩:=h2.un_fn;exact Res.pure r h1 (by simp[execOp,ho,h5]) (.fn _ _ _ _ _ h3 h4)
 .obtain⟨L,h3,h4,h5⟩:=h2.un_map;exact Res.pure r h1 (by simp[execOp,ho,h5]) (.map _ L h3 h4)
 .obtain⟨c,base,arr,h3,h4,h6⟩:=h2.un_pf;exact Res.pure r h1 (by simp[execOp,ho,h3]) (.pf _ base _ c arr h4 h6)
 .obtain⟨L,h3,h4⟩:=h2.un_yl;exact Res.pure r h1 (by simp[execOp,ho,h4]) (.yl _ L h3)
end ops

theorem qi1{op:BinOp}{t:TypeId}{x y:Operand}{u v:Value}(hu:∀cs,u≠.agg cs)(hu2:u≠.nilIface)(w:World):(eqGuard op t x y u v).run P w = .ok () w:=by
 cases u<;>first|exact absurd rfl hu2|exact absurd rfl (hu _)|(cases op<;>simp[eqGuard])

section ops
variable {B:Nat->Prop} {h:Hp} {w:World} {a:Act} {t:Tr AV} {orc:Orc} {k:AV->Hp->Prop} {o:Oper}

def qyh(ho:OrcOk P σ orc){op:BinOp}{x y:AV}{x' y':Value}(hx:VR σ Z x x')(hy:VR σ Z y y'){k:AV->Prop}(hk:xq orc op x y k){ty:TypeId}(w:World) :
  ∃r r',k r/\VR σ Z r r'/\(binOp op ty x' y').run P w = .ok r' w/\(∀cs,x'≠.agg cs)/\x'≠.nilIface:=by
 have orcOk:∀{q:AV} {x y:AV},orc.bin op x y=some q->VR σ Z x x'->VR σ Z y y'->k q->∃r r',k r/\VR σ Z r r'/\(binOp op ty x' y').run P w = .ok r' w:=by
  grind[OrcOk.bin]
 have orcK_ok:∀{m:Option AV},qiH m k->∃q,m=some q/\k q:=by
  intro m hm;cases m with
  | none=>exact hm.elim
  | some q=>exact⟨q,rfl,hm⟩
 cases x<;>try exact hk.elim
 case i q n =>
  have ex:=hx.un_i;subst ex;cases y<;>try exact hk.elim
  case i q' m =>
   have ey:=hy.un_i;subst ey;have hnn:(∀cs,Value.int q n≠.agg cs)/\Value.int q n≠.nilIface:=⟨by simp_all,by simp_all⟩
   by_cases hs:op = .shl\/op = .shr
   .have hk':qkk op q n m k:=by rcases hs with rfl|rfl<;>exact hk
    obtain⟨r,r',h1,h2,h3⟩:=qxx (P:=P) (σ:=σ) (Z:=Z) hs (q':=q') hk' ty w
    grind
   .have hk':qo (decide (q=q')) (xo op q n m k):=by cases op<;>first|exact hk|simp at hs
    obtain⟨h1,h2⟩:=(qd _ _).1 hk';have:q=q':=by simpa using h1
    subst this;obtain⟨r,r',h1,h2,h3⟩:=qti (P:=P) (σ:=σ) (Z:=Z) h2 ty w
    grind
  case sym j =>
   obtain⟨q',h1,h2⟩:=orcK_ok hk
   grind
 case s l =>
  have ex:=hx.un_s;subst ex;cases y<;>try exact hk.elim
  case s l' =>
   have ey:=hy.un_s;subst ey;obtain⟨r,r',h1,h2,h3⟩:=qt7 (P:=P) (σ:=σ) (Z:=Z) hk ty w
   grind
  case sym j =>
   obtain⟨q',h1,h2⟩:=orcK_ok hk
   grind
 case sym j =>
  obtain⟨q',h1,h2⟩:=orcK_ok hk;obtain⟨r,r',h3,h4,h5⟩:=orcOk h1 hx hy h2;cases hx with
  | sym =>
   refine⟨r,r',h3,h4,h5,?_,?_⟩
   .intro cs hh;have:=ho.atoms j;rw[hh]at this;cases this
   .intro hh;rcases ho.prim j with⟨_,_,e⟩|⟨_,e⟩|⟨_,e⟩<;>rw[e]at hh<;>cases hh

theorem qi2{op:BinOp}{ty uy:TypeId}{x y:Operand}{r:Value}(ho:o.op = .binOp op ty x y uy)(hg:(eqGuard op ty x y (a.eval x) (a.eval y)).run P w = .ok () w)(hr:(binOp op ty (a.eval x) (a.eval y)).run P w = .ok r w) :
  (execOp a.eval o).run P w = .ok (.value r) w:=by
 simp[execOp,ho,hg,hr]

def qCc(horc:OrcOk P σ orc)(r:Rel σ Z B h w)(ht:TR σ Z t a.tmps){op:BinOp}{x y:O}{x' y':Operand}{ty uy:TypeId}(ho:o.op = .binOp op ty x' y' uy)(hc1:qE x' x=true)(hc2:qE y' y=true)(hk:opK orc (.bin op x y) t h k):Res P σ Z B h w (execOp a.eval o) k:=by
 obtain⟨u,h1,h2⟩:=zd ht hc1 hk;obtain⟨v,h3,h4⟩:=zd ht hc2 h1;obtain⟨q,q',h5,h6,h7,h8,h9⟩:=qyh (P:=P) horc h2 h4 h3 (ty:=ty) w;exact Res.pure r h5 (by grind[qi2,qi1]) h6

def qH2(r:Rel σ Z B h w)(ht:TR σ Z t a.tmps){op:UnOp}{x:O}{y:Operand}{ty:TypeId}(ho:o.op = .unOp op ty y)(hc:qE y x=true)(hk:opK orc (.un op x) t h k):Res P σ Z B h w (execOp a.eval o) k:=by
 obtain⟨v,h1,h2⟩:=zd ht hc hk;cases op
 .cases v<;>try exact h1.elim
  have e:=h2.un_i;have h1':=h1;simp only[qeD,zA]at h1';exact Res.pure r h1' (by simp[execOp,ho,e,Op.unary,Op.intArith]) (.i _ _)
 .cases v<;>try exact h1.elim
  have e:=h2.un_i;have h1':=h1;simp only[qeD,zA]at h1';exact Res.pure r h1' (by simp[execOp,ho,e,Op.unary,Op.intBits]) (.i _ _)
 .cases v<;>try exact h1.elim
  have e:=h2.un_b;have h1':=h1;simp only[qeD,qM]at h1';exact Res.pure r h1' (by simp[execOp,ho,e,Op.unary]) (.b _)
 .exact h1.elim

def qu9(horc:OrcOk P σ orc)(r:Rel σ Z B h w)(ht:TR σ Z t a.tmps){q:IntKind}{x:O}{y:Operand}{s d:TypeId}(ho:o.op = .convert s d y)(hc:qE y x=true)(hs:(P.underlying s).isSome=true)(hd:qzq P d q=true)(hk:opK orc (.cvInt q x) t h k):Res P σ Z B h w (execOp a.eval o) k:=by
 obtain⟨v,h1,h2⟩:=zd ht hc hk;obtain⟨ds,hs⟩:=Option.isSome_iff_exists.1 hs
 have key:∃r' p n,k r' h/\a.eval y = .int p n/\VR σ Z r' (.int q (q.wrap n)):=by
  cases v<;>try exact h1.elim
  case i p n =>
   have e:=h2.un_i;have h4:xQ (qjR q n) (λr=>k (.i q r) h):=h1
   rw[zA,qd7]at h4;exact⟨_,p,n,h4,e,.i _ _⟩
  case sym j =>
   have h4:qiH (orc.cv q j) (λv=>k v h):=h1
   have e:=h2.un_sym;cases hq:orc.cv q j with
   | none=>rw[hq]at h4;exact h4.elim
   | some r' =>
    rw[hq]at h4;obtain⟨p,n,h5,h6⟩:=horc.cv _ _ _ hq;exact⟨r',p,n,h4,e.trans h5,h6 Z⟩
 obtain⟨r',p,n,h4,h3,h5⟩:=key;refine Res.pure r h4 (v':=.int q (q.wrap n)) ?_ h5;simp only[execOp,ho,convert,Sem.run_bind,qy hs,qy (qtj hd),Result.andThen_ok,h3];cases ds<;>simp[Conv.intToInt]

def qvs(r:Rel σ Z B h w)(ht:TR σ Z t a.tmps){off f:Nat}{x:O}{y:Operand}{ty:TypeId}(ho:o.op = .fieldAddr ty y f)(hc:qE y x=true){fs:Array Field}(h1:fieldsOf P ty=some fs){fd:Field}(h2:fs[f]?=some fd)(h3:fd.offset=off)(h4:zb P fd.type 0=false)(h5:(P.info? fd.type).isSome=true)(hk:opK orc (.fAddr off x) t h k):Res P σ Z B h w (execOp a.eval o) k:=by
 obtain⟨v,h6,h7⟩:=zd ht hc hk;obtain⟨b,o',u,h9,h10,h8⟩:=qrQ h7 h6;obtain⟨i,hi⟩:=Option.isSome_iff_exists.1 h5;have hz:i.size≠0:=by unfold zb at h4;rw[hi]at h4;simp_all
 refine Res.pure r h10 (v':=.pointer (some ⟨b,o'+off,none⟩)) ?_ h8;simp[execOp,ho,Instr.fieldAt,qy (qeI h1),h2,h9,Instr.sureAddr,fieldPlace,sizeOf,typeInfo,hi,hz,xV,h3]

def qCW(r:Rel σ Z B h w)(ht:TR σ Z t a.tmps){off f:Nat}{n:Option Nat}{x:O}{y:Operand}{ty:TypeId}(ho:o.op = .field ty y f)(hc:qE y x=true)(hf:qlv P ((fieldsOf P ty).bind (·[f]?)) off n=true)(hk:opK orc (.fld off n x) t h k):Res P σ Z B h w (execOp a.eval o) k:=by
 obtain⟨v,h1,h2⟩:=zd ht hc hk;cases v<;>try exact h1.elim
 rename_i cs;obtain⟨vs,h3,h4⟩:=h2.un_agg;cases hfs:fieldsOf P ty with
 | none=>rw[hfs]at hf;cases n<;>cases hf
 | some fs =>
  rw[hfs]at hf;cases hfd:fs[f]? with
  | none=>simp[hfd,qlv]at hf
  | some fd =>
   simp only[Option.bind_some,hfd]at hf;cases n with
   | none =>
    simp[qlv]at hf;have h1':qiE cs off (λv=>k v h):=h1
    obtain⟨v,h5,h6⟩:=(jd _ _ _).1 h1';obtain⟨v',h7,h8⟩:=h3.get h5;refine Res.pure r h6 (v':=v') ?_ h8;have hp:=(qfu (P:=P) (t:=fd.type) vs fd.offset w).1 (v:=v') hf.1.2 hf.2 (by rw[hf.1.1];simp_all);simp[execOp,ho,Instr.field,qy (qeI hfs),hfd,h4,asAgg,hp]
   | some n =>
    simp[qlv]at hf;have h1':qc9 off cs (λl=>qcK n l (λl=>k (.agg l) h)):=h1
    obtain⟨h5,h6⟩:=(zL _ _ _).1 h1';obtain⟨h7,h8⟩:=(zH _ _ _).1 h6;have hp:=(qfu (P:=P) (t:=fd.type) vs fd.offset w).2 (n:=n) hf.1.2 hf.2;refine Res.pure r h8 (v':=.agg (vs.extract off (off+n))) ?_ (.agg _ _ ?_)
    .rw[hf.1.1]at hp;simp[execOp,ho,Instr.field,qy (qeI hfs),hfd,h4,asAgg,hp,hf.1.1]
    simp_all[VRs.take,VRs.drop]

def qtd(r:Rel σ Z B h w)(ht:TR σ Z t a.tmps){len esz:Nat}{x i:O}{x' i':Operand}{ty e:TypeId}(ho:o.op = .indexAddr ty x' i')(hc1:qE x' x=true)(hc2:qE i' i=true)(h1:qhS P ty=some (len,e))(h2:zb P e esz=true)(hk:opK orc (.iAddrA len esz x i) t h k):Res P σ Z B h w (execOp a.eval o) k:=by
 obtain⟨v,h3,h4⟩:=zd ht hc1 hk;obtain⟨u,h8,h9⟩:=zd ht hc2 h3;obtain⟨q,n,h10,h11⟩:=qd6 h9 h8;obtain⟨h12,h13⟩:=(qd _ _).1 h11;obtain⟨b,o',u2,h6,h14,h5⟩:=qrQ h4 h13;have hlt:n<len:=by rw[qe7]at h12;grind
 refine Res.pure r h14 (v':=.pointer (some ⟨b,o'+n*esz,none⟩)) ?_ h5;simp[execOp,ho,Instr.indexAt,h6,h10,asIntOf,qy (qdD h1),Instr.sureAddr,hlt,zQ h2,xV]

def qte(r:Rel σ Z B h w)(ht:TR σ Z t a.tmps){esz:Nat}{x i:O}{x' i':Operand}{ty e:TypeId}(ho:o.op = .indexAddr ty x' i')(hc1:qE x' x=true)(hc2:qE i' i=true)(h1:xr P ty=some e)(h2:zb P e esz=true)(hk:opK orc (.iAddrS esz x i) t h k):Res P σ Z B h w (execOp a.eval o) k:=by
 obtain⟨v,h3,h4⟩:=zd ht hc1 hk;cases v<;>try exact h3.elim
 rotate_left
 .rename_i len cs;obtain⟨u,h8,h9⟩:=zd ht hc2 h3;obtain⟨q,n,h10,h11⟩:=qd6 h9 h8;obtain⟨h12,h13⟩:=(qd _ _).1 h11;rw[qD]at h13;have hlt:n<len:=by rw[qe7]at h12;grind
  rcases h4.un_fz with⟨k0,off,c,arr,h5,_,h6,h14⟩|⟨h5,_⟩
  .refine Res.pure r h13 (v':=.pointer (some ⟨k0,off+n*esz,none⟩)) ?_ (.pf _ off _ k0 arr h6 h14);simp[execOp,ho,Instr.indexAt,h5,h10,asIntOf,qy (zV h1),hlt,zQ h2,xV]
  .omega
 .rename_i b len;obtain⟨u,h8,h9⟩:=zd ht hc2 h3;obtain⟨q,n,h10,h11⟩:=qd6 h9 h8;obtain⟨h12,h13⟩:=(qd _ _).1 h11;rw[qD]at h13;have hlt:n<len:=by rw[qe7]at h12;grind
  rcases h4.un_own with⟨h5,_,_⟩|⟨L,c,h5,h6,h7,h14⟩
  .omega
  .refine Res.pure r h13 (v':=.pointer (some ⟨L.blk,L.off+n*esz,none⟩)) ?_ (.ptr _ _ L h5);simp[execOp,ho,Instr.indexAt,h14,h10,asIntOf,qy (zV h1),hlt,zQ h2,xV]
 rename_i b o' len cap loose;obtain⟨L,c,off,h5,h7,h6⟩:=h4.un_sl;obtain⟨u,h8,h9⟩:=zd ht hc2 h3;obtain⟨q,n,h10,h11⟩:=qd6 h9 h8;obtain⟨h12,h13⟩:=(qd _ _).1 h11;rw[qD]at h13;have hlt:n<len:=by rw[qe7]at h12;grind
 have hoff:off=L.off+o':=by rcases h6 with⟨h6,_⟩|⟨h6,_,_⟩<;>omega
 subst hoff;refine Res.pure r h13 (v':=.pointer (some ⟨L.blk,L.off+(o'+n*esz),none⟩)) ?_ (.ptr _ _ L h5);simp[execOp,ho,Instr.indexAt,h7,h10,asIntOf,qy (zV h1),hlt,zQ h2,xV,Nat.add_assoc]
end ops
def qrh(l:List UInt8):(ByteArray.mk l.toArray).size=l.length:=by simp[ByteArray.size]
def qB8(l:List UInt8)(n:Nat):(ByteArray.mk l.toArray)[n]?=l[n]?:=by
 by_cases h:n<l.length
 .have h2:n<(ByteArray.mk l.toArray).size:=by simpa[ByteArray.size]using h
  rw[getElem?_pos (ByteArray.mk l.toArray) n h2,zzE h];rfl
 .have h2:¬n<(ByteArray.mk l.toArray).size:=by simpa[ByteArray.size]using h
  rw[getElem?_neg (ByteArray.mk l.toArray) n h2,List.getElem?_eq_none (by omega)]
section ops
variable {B:Nat->Prop} {h:Hp} {w:World} {a:Act} {t:Tr AV} {orc:Orc} {k:AV->Hp->Prop} {o:Oper}

def qzm(r:Rel σ Z B h w)(ht:TR σ Z t a.tmps){len esz:Nat}{agg:Bool}{x i:O}{x' i':Operand}{ty e:TypeId}(ho:o.op = .index ty x' i')(hc1:qE x' x=true)(hc2:qE i' i=true)(h1:qhS P ty=some (len,e))(h2:zb P e esz=true)(hag:qay P e=agg)(hu:(P.underlying e).isSome=true)(hk:opK orc (.idxA len esz agg x i) t h k):Res P σ Z B h w (execOp a.eval o) k:=by
 obtain⟨v,h3,h4⟩:=zd ht hc1 hk;cases v<;>try exact h3.elim
 rename_i cs;obtain⟨vs,h5,h6⟩:=h4.un_agg;obtain⟨u,h8,h9⟩:=zd ht hc2 h3;obtain⟨q,n,h10,h11⟩:=qd6 h9 h8;obtain⟨h12,h13⟩:=(qd _ _).1 h11;rw[qD]at h13;have hlt:n<len:=by rw[qe7]at h12;grind
 cases agg with
 | false =>
  have h14:qiE cs (n*esz) (λv=>k v h):=h13
  obtain⟨v,h15,h16⟩:=(jd _ _ _).1 h14;obtain⟨v',h17,h18⟩:=h5.get h15;have hp:=(qfu (P:=P) (t:=e) vs (n*esz) w).1 (v:=v') hag hu (by simp_all);refine Res.pure r h16 (v':=v') ?_ h18;simp[execOp,ho,Instr.index,h6,h10,asIntOf,qy (qdD h1),hlt,zQ h2,hp]
 | true =>
  have h14:qc9 (n*esz) cs (λl=>qcK esz l (λl=>k (.agg l) h)):=h13
  obtain⟨_,h15⟩:=(zL _ _ _).1 h14;obtain⟨_,h16⟩:=(zH _ _ _).1 h15;have hp:=(qfu (P:=P) (t:=e) vs (n*esz) w).2 (n:=esz) hag h2;refine Res.pure r h16 (v':=.agg (vs.extract (n*esz) (n*esz+esz))) ?_ (.agg _ _ ?_)
  .simp[execOp,ho,Instr.index,h6,h10,asIntOf,qy (qdD h1),hlt,zQ h2,hp]
  simp_all[VRs.take,VRs.drop]

def qzn(r:Rel σ Z B h w)(ht:TR σ Z t a.tmps){x i:O}{x' i':Operand}{ty:TypeId}(ho:o.op = .index ty x' i')(hc1:qE x' x=true)(hc2:qE i' i=true)(h1:qg8 P ty=true)(hk:opK orc (.idxS x i) t h k):Res P σ Z B h w (execOp a.eval o) k:=by
 obtain⟨v,h3,h4⟩:=zd ht hc1 hk;cases v<;>try exact h3.elim
 rename_i l;have h6:=h4.un_s;obtain⟨u,h8,h9⟩:=zd ht hc2 h3;obtain⟨q,n,h10,h11⟩:=qd6 h9 h8;cases hg:l[n]? with
 | none=>rw[hg]at h11;simp_all
 | some c =>
  rw[hg]at h11;refine Res.pure r h11 (v':=.int .u8 (c.toNat:Int)) ?_ (.i _ _);have hn:n<l.length:=by grind
  have hb:=(qB8 l n).trans hg;simp[execOp,ho,Instr.index,h6,h10,asIntOf,qy (qet h1),hb]

def qCO(r:Rel σ Z B h w)(ht:TR σ Z t a.tmps){x:O}{i:Nat}{y:Operand}(ho:o.op = .extract y i)(hc:qE y x=true)(hk:opK orc (.ext x i) t h k):Res P σ Z B h w (execOp a.eval o) k:=by
 obtain⟨v,h1,h2⟩:=zd ht hc hk;cases v<;>try exact h1.elim
 rename_i cs;obtain⟨vs,h3,h4⟩:=h2.un_tup;have h1':qiE cs i (λv=>k v h):=h1
 obtain⟨v,h5,h6⟩:=(jd _ _ _).1 h1';obtain⟨v',h7,h8⟩:=h3.get h5;exact Res.pure r h6 (by simp only[Array.getElem?_toList]at h7;simp[execOp,ho,h4,Instr.extract,h7]) h8

def qDz(r:Rel σ Z B h w)(ht:TR σ Z t a.tmps){f:Nat}{xs cs:List O}{ys ds:Array Operand}(ho:o.op = .makeFunc (.func f) ys ds)(hc1:qfb ys.toList xs=true)(hc2:qfb ds.toList cs=true)(hk:opK orc (.mkF f xs cs) t h k):Res P σ Z B h w (execOp a.eval o) k:=by
 obtain⟨vs,h1,h2⟩:=qiv ht hc1 hk;obtain⟨us,h3,h4⟩:=qiv ht hc2 h1;exact Res.pure r h3 (v':=.func (.func f) (ys.map a.eval) (ds.map a.eval)) (by simp[execOp,ho,Instr.makeFunc]) (.fn _ _ _ _ _ (by simp_all) (by simp_all))

def qtq(r:Rel σ Z B h w){ty:TypeId}{y:Operand}{n:Nat}{m:Int}{args:Array TypeId}{ops:Array Operand}(ho:o.op = .call ⟨.builtin .len,ops,args⟩)(hops:ops.toList=[y])(hr:args[0]?=some ty){e:TypeId}(h1:qhS P ty=some (n,e))(hm:m=(n:Int))(hk:opK orc (.mov (.c (.i .i64 m))) t h k):Res P σ Z B h w (execOp a.eval o) k:=by
 subst hm;have hk':k (.i .i64 (n:Int)) h:=hk;obtain rfl:ops = #[y]:=by grind
 exact Res.pure r hk' (v':=.int .i64 n) (by simp[execOp,ho,resolve,invoke,builtin,Builtin.len_,hr,qy (qdD h1),goInt]) (.i _ _)

def qDl(horc:OrcOk P σ orc)(r:Rel σ Z B h w)(ht:TR σ Z t a.tmps){str:Bool}{ty:TypeId}{x:O}{y:Operand}{args:Array TypeId}{ops:Array Operand}(ho:o.op = .call ⟨.builtin .len,ops,args⟩)(hops:ops.toList=[y])(hr:args[0]?=some ty)(h1:(if str then qg8 P ty else(xr P ty).isSome)=true)(hc:qE y x=true)(hk:opK orc (.len str x) t h k):Res P σ Z B h w (execOp a.eval o) k:=by
 obtain⟨v,h2,h3⟩:=zd ht hc hk;obtain rfl:ops = #[y]:=by grind
 cases str with
 | false =>
  obtain⟨e,he⟩:=Option.isSome_iff_exists.1 (by simpa using h1);have hu:=zV he;cases v<;>try exact h2.elim
  .have e':=h3.un_nils;exact Res.pure r (v:=.i .i64 0) h2 (by simp[execOp,ho,resolve,invoke,builtin,Builtin.len_,hr,qy hu,e',goInt]) (.i _ _)
  .obtain⟨L,c,_,_,e',_⟩:=h3.un_sl;exact Res.pure r (v:=.i .i64 (Int.ofNat _)) h2 (by simp[execOp,ho,resolve,invoke,builtin,Builtin.len_,hr,qy hu,e',goInt]) (.i _ _)
  .rcases h3.un_fz with⟨k0,off,c,arr,e',_⟩|⟨rfl,_,a0,e'⟩
   .exact Res.pure r (v:=.i .i64 (Int.ofNat _)) h2 (by simp[execOp,ho,resolve,invoke,builtin,Builtin.len_,hr,qy hu,e',goInt]) (.i _ _)
   .exact Res.pure r (v:=.i .i64 (Int.ofNat _)) h2 (by simp[execOp,ho,resolve,invoke,builtin,Builtin.len_,hr,qy hu,e',goInt]) (.i _ _)
  .obtain⟨a0,e'⟩:=h3.un_e0;exact Res.pure r (v:=.i .i64 0) h2 (by simp[execOp,ho,resolve,invoke,builtin,Builtin.len_,hr,qy hu,e',goInt]) (.i _ _)
  .rcases h3.un_own with⟨rfl,⟨a0,e'⟩,_⟩|⟨L,c,_,_,_,e'⟩
   .exact Res.pure r (v:=.i .i64 (Int.ofNat _)) h2 (by simp[execOp,ho,resolve,invoke,builtin,Builtin.len_,hr,qy hu,e',goInt]) (.i _ _)
   .exact Res.pure r (v:=.i .i64 (Int.ofNat _)) h2 (by simp[execOp,ho,resolve,invoke,builtin,Builtin.len_,hr,qy hu,e',goInt]) (.i _ _)
  .obtain⟨a0,c0,e'⟩:=h3.un_nz;exact Res.pure r (v:=.i .i64 0) h2 (by simp[execOp,ho,resolve,invoke,builtin,Builtin.len_,hr,qy hu,e',goInt]) (.i _ _)
 | true =>
  have hu:=qet (P:=P) (t:=ty) (by simp_all);cases v<;>try exact h2.elim
  .have e':=h3.un_s;have h2':qw _ _:=h2;rw[qD]at h2';exact Res.pure r (v:=.i .i64 (Int.ofNat _)) h2' (by simp[execOp,ho,resolve,invoke,builtin,Builtin.len_,hr,qy hu,e',goInt,qrh]) (.i _ _)
  .rename_i j;have h2':qiH (orc.len j) (λv=>k v h):=h2
   cases hq:orc.len j with
   | none=>rw[hq]at h2';exact h2'.elim
   | some q =>
    rw[hq]at h2';obtain⟨s,hs,hv⟩:=horc.len _ _ hq;have e':a.eval y = .string s:=h3.un_sym.trans hs;exact Res.pure r h2' (by simp[execOp,ho,resolve,invoke,builtin,Builtin.len_,hr,qy hu,e',goInt]) (hv _)

def qCq(r:Rel σ Z B h w)(ht:TR σ Z t a.tmps){ty:TypeId}{x:O}{y:Operand}{args:Array TypeId}{ops:Array Operand}(ho:o.op = .call ⟨.builtin .cap,ops,args⟩)(hops:ops.toList=[y])(hr:args[0]?=some ty)(h1:(xr P ty).isSome=true)(hc:qE y x=true)(hk:opK orc (.cap x) t h k):Res P σ Z B h w (execOp a.eval o) k:=by
 obtain⟨v,h2,h3⟩:=zd ht hc hk;obtain rfl:ops = #[y]:=by cases ops;simpa using hops
 obtain⟨e,he⟩:=Option.isSome_iff_exists.1 h1;have hu:=zV he;cases v<;>try exact h2.elim
 .have e':=h3.un_nils;exact Res.pure r (v:=.i .i64 0) h2 (by simp[execOp,ho,resolve,invoke,builtin,Builtin.cap_,hr,qy hu,e',goInt]) (.i _ _)
 .rename_i b o' len cap loose;cases loose with
  | true=>exact h2.elim
  | false =>
   obtain⟨L,c,off,h4,e',h5⟩:=h3.un_sl
   have hcc:c=cap:=by
    rcases h5 with⟨_,q1|⟨q1,_⟩⟩|⟨_,q1,q2⟩
    .exact q1
    .cases q1
    .exact q2.trans q1.symm
   subst hcc;exact Res.pure r (v:=.i .i64 (Int.ofNat _)) h2 (by simp[execOp,ho,resolve,invoke,builtin,Builtin.cap_,hr,qy hu,e',goInt]) (.i _ _)
 .obtain⟨a0,e'⟩:=h3.un_e0;exact Res.pure r (v:=.i .i64 0) h2 (by simp[execOp,ho,resolve,invoke,builtin,Builtin.cap_,hr,qy hu,e',goInt]) (.i _ _)

def qDu(r:Rel σ Z B h w)(ht:TR σ Z t a.tmps){x y:O}{x' y':Operand}{args:Array TypeId}{ops:Array Operand}(ho:o.op = .call ⟨.builtin .max,ops,args⟩)(hops:ops.toList=[x',y'])(hc:qE x' x=true)(hc2:qE y' y=true)(hk:opK orc (.max x y) t h k):Res P σ Z B h w (execOp a.eval o) k:=by
 obtain⟨u,h1,h2⟩:=zd ht hc hk;obtain⟨v,h3,h4⟩:=zd ht hc2 h1;obtain rfl:ops = #[x',y']:=by grind
 obtain⟨q,n,h5,h6⟩:=qov h2 h3;obtain⟨q',m,h7,h8⟩:=qov h4 h6
 have hrun:(execOp a.eval o).run P w = .ok (.value (.int q (if m > n then m else n))) w:=by
  simp[execOp,ho,resolve,invoke,builtin,Builtin.max_,Builtin.max2,h5,h7]
 rw[qcZ]at h8
 by_cases hlt:n<m
 .simp only[hlt,decide_true]at h8;exact Res.pure r h8 (by rw[hrun,if_pos hlt]) (.i _ _)
 .simp only[hlt,decide_false]at h8;exact Res.pure r h8 (by rw[hrun,if_neg hlt]) (.i _ _)
end ops

def quc(σ:Nat->Value)(Z:Ren)(v:Option AV)(y:Option Value):Prop:=(v=none/\y=none)\/∃u y',v=some u/\y=some y'/\VR σ Z u y'

def qkU{v:Option AV}{y:Option Value}(hv:quc σ Z v y){d top topR:Nat}(ht:top<=topR){k:Nat->Prop}(hk:qiX v d top k)(code:Instr.sliceBound=Instr.sliceBound->BoundsCode)(w:World) :
  ∃n,k n/\((v=none/\y=none/\n=d)\/∃u,y=some u/\v≠none/\n<=top/\(Instr.sliceBound u topR (code rfl)).run P w = .ok n w):=by
 rcases hv with⟨rfl,rfl⟩|⟨u,y',rfl,rfl,hv⟩
 .exact⟨d,hk,by simp_all⟩
 .have hk':unN u (λn=>qo (Nat.ble n top) (qw n k)):=hk
  obtain⟨q,n,e,h1⟩:=qd6 hv hk';obtain⟨h2,h3⟩:=(qd _ _).1 h1;rw[qD]at h3;rw[qe7]at h2;have h4:n<=top:=by simp_all
  refine⟨n,h3,.inr ⟨_,rfl,by simp,h4,?_⟩⟩
  have:(0:Int)<=n/\(n:Int)<=topR:=by omega
  simp[Instr.sliceBound,e,asIntOf,this]

def jW{lo hi mx:Option AV}{lo' hi' mx':Option Value}(h1:quc σ Z lo lo')(h2:quc σ Z hi hi')(h3:quc σ Z mx mx'){len cap capR:Nat}(hc:cap<=capR){k:Nat->Nat->Nat->Prop}(hk:xf len cap lo hi mx k)(isSlice:Bool)(w:World) :
  ∃l h m mR,k l h m/\(Instr.sliceBounds isSlice len capR lo' hi' mx').run P w = .ok (l,h,mR) w/\l<=h/\h<=m/\m<=cap/\((mx=none/\m=cap/\mR=capR)\/(mx≠none/\mR=m)):=by
 have hk':qiX mx cap cap (λm=>Option.rec (motive:=λ_=>Prop) (Option.rec (motive:=λ_=>Prop) (qo (Nat.ble len m) (qiX lo 0 len (λl=>k l len m))) (λ_=>False) mx)
  (λv=>unN v (λh=>qo (Nat.ble h m) (qw h (λh=>qiX lo 0 h (λl=>k l h m))))) hi):=hk
 obtain⟨m,hm,hm2⟩:=qkU (P:=P) h3 hc hk' (λ_=>if isSlice then .slice3Acap else .slice3Alen) w
 rcases h2 with⟨rfl,rfl⟩|⟨u,y',rfl,rfl,hv⟩
 .rcases hm2 with⟨rfl,rfl,rfl⟩|⟨u,rfl,hne,_⟩
  .have hm':qo (Nat.ble len m) (qiX lo 0 len (λl=>k l len m)):=hm
   obtain⟨h4,h5⟩:=(qd _ _).1 hm';rw[qe7]at h4;obtain⟨l,h6,h7⟩:=qkU (P:=P) h1 (zzL _) h5 (λ_=>.sliceB) w
   rcases h7 with⟨rfl,rfl,rfl⟩|⟨u,rfl,_,h8,h9⟩
   .exact⟨0,len,m,capR,h6,by simp[Instr.sliceBounds],Nat.zero_le _,by simp_all,zzL _,by simp_all⟩
   .exact⟨l,len,m,capR,h6,by simp[Instr.sliceBounds,h9],h8,by simp_all,zzL _,by simp_all⟩
  .cases mx<;>simp_all
 .have hm':unN u (λh=>qo (Nat.ble h m) (qw h (λh=>qiX lo 0 h (λl=>k l h m)))):=hm
  obtain⟨q,h,e,h4⟩:=qd6 hv hm';obtain⟨h5,h6⟩:=(qd _ _).1 h4;rw[qD]at h6;rw[qe7]at h5;have h5':h<=m:=by simp_all
  rcases hm2 with⟨rfl,rfl,rfl⟩|⟨v,rfl,hne,hmt,hmr⟩
  .obtain⟨l,h7,h8⟩:=qkU (P:=P) h1 (zzL _) h6 (λ_=>.sliceB) w
   have hh:∀code,(Instr.sliceBound y' capR code).run P w = .ok h w:=by
    intro code;have:(h:Int)<=capR:=by omega
    simp[Instr.sliceBound,e,asIntOf];omega
   rcases h8 with⟨rfl,rfl,rfl⟩|⟨v,rfl,_,h8,h9⟩
   .exact⟨0,h,m,capR,h7,by simp[Instr.sliceBounds,hh],Nat.zero_le _,h5',zzL _,.inl ⟨rfl,rfl,rfl⟩⟩
   .exact⟨l,h,m,capR,h7,by simp[Instr.sliceBounds,hh,h9],h8,h5',zzL _,.inl ⟨rfl,rfl,rfl⟩⟩
  .obtain⟨l,h7,h8⟩:=qkU (P:=P) h1 (zzL _) h6 (λ_=>.slice3C) w
   have hh:∀code,(Instr.sliceBound y' m code).run P w = .ok h w:=by
    intro code;simp[Instr.sliceBound,e,asIntOf];omega
   have hmr':(Instr.sliceBound v capR (if isSlice=true then .slice3Acap else .slice3Alen)).run P w = .ok m w:=hmr
   rcases h8 with⟨rfl,rfl,rfl⟩|⟨z,rfl,_,h8,h9⟩
   .exact⟨0,h,m,m,h7,by simp[Instr.sliceBounds,hmr',hh],Nat.zero_le _,h5',hmt,.inr ⟨hne,rfl⟩⟩
   .exact⟨l,h,m,m,h7,by simp[Instr.sliceBounds,hmr',hh,h9],h8,h5',hmt,.inr ⟨hne,rfl⟩⟩

def qhC{t:Tr AV}{a:Act}(ht:TR σ Z t a.tmps){x:Option O}{y:Option Operand}(hc:qba y x=true){k:Option AV->Prop}(h:qcG t x k):∃v,k v/\quc σ Z v (y.map a.eval):=by
 obtain⟨v,h1,h2⟩:=qz7 ht hc h;rcases h2 with⟨rfl,rfl⟩|⟨u,y',rfl,rfl,h3⟩
 .exact⟨none,h1,.inl ⟨rfl,rfl⟩⟩
 .exact⟨some u,h1,.inr (by simp_all)⟩

section ops
variable {B:Nat->Prop} {h:Hp} {w:World} {a:Act} {t:Tr AV} {orc:Orc} {k:AV->Hp->Prop} {o:Oper}

def qAB(r:Rel σ Z B h w)(ht:TR σ Z t a.tmps){esz:Nat}{x:O}{lo hi mx:Option O}{x':Operand}{lo' hi' mx':Option Operand}{ty e:TypeId}(ho:o.op = .slice ty x' lo' hi' mx')(hc:qE x' x=true)(hc1:qba lo' lo=true)(hc2:qba hi' hi=true)(hc3:qba mx' mx=true)(h1:xr P ty=some e)(h2:zb P e esz=true)(hk:opK orc (.slcS esz x lo hi mx) t h k):Res P σ Z B h w (execOp a.eval o) k:=by
 obtain⟨v,h3,h4⟩:=zd ht hc hk;obtain⟨l,h5,hl⟩:=qhC ht hc1 h3;obtain⟨hh,h6,hhi⟩:=qhC ht hc2 h5;obtain⟨m,h7,hm⟩:=qhC ht hc3 h6;have hu:=zV h1;cases v<;>try exact h7.elim
 .obtain⟨l0,h0,m0,mR,h8,h9,h10,h11,h12,h13⟩:=jW (P:=P) hl hhi hm (zzL 0) h7 true w;refine Res.pure r h8 (v':=.slice none 0 0) ?_ .nils;have:l0=0/\h0=0/\mR=0:=by rcases h13 with⟨_,_,_⟩|⟨_,_⟩<;>omega
  obtain⟨rfl,rfl,rfl⟩:=this;simp[execOp,ho,Instr.sliceAt,qy hu,Instr.slice,h4.un_nils,h9,zQ h2]
 rotate_left 1
 .rename_i n cs
  -- a row that stays
  have hgo:∀(l0 h0 m0:Nat),Bool.rec (motive:=λ_=>Prop) (qc9 (Nat.mul l0 esz) cs (λl1=>qw (h0-l0) (λlen'=>qcK (Nat.mul len' esz) l1 (λl2=>k (.fz len' l2) h)))) (k .e0 h) (and m.isSome (Nat.beq m0 l0))->
    ((and m.isSome (Nat.beq m0 l0))=true/\k .e0 h)\/((and m.isSome (Nat.beq m0 l0))=false/\l0*esz<=cs.length/\(h0-l0)*esz<=cs.length-l0*esz/\k (.fz (h0-l0) ((cs.drop (l0*esz)).take ((h0-l0)*esz))) h):=by
   grind[qe8,zL,qD,zH]
  rcases h4.un_fz with⟨k0,off,c,arr,e1,e0,e2,e4⟩|⟨rfl,rfl,a0,e1⟩
  .obtain⟨l0,h0,m0,mR,g1,g2,g3,g4,g5,g6⟩:=jW (P:=P) hl hhi hm e0 h7 true w
   have hrun:(execOp a.eval o).run P w = .ok (.value (.slice (some (if mR=l0 then⟨k0,off,none⟩else⟨k0,off+l0*esz,none⟩)) (h0-l0) (mR-l0))) w:=by
    simp only[execOp,ho,Instr.sliceAt,Sem.run_bind,qy hu,Result.andThen_ok,Instr.slice,e1,g2,zQ h2,Option.map_some,Sem.run_pure,xV]
    grind
   rcases hgo l0 h0 m0 g1 with⟨q1,q2⟩|⟨q1,q2,q3,q4⟩
   .simp only[zzB]at q1;have q3:m0=l0:=by simp_all
    have q4:mR=l0:=by
     grind
    refine Res.pure r q2 hrun ?_;have q5:h0-l0=0:=by omega
    rw[if_pos q4,q4,Nat.sub_self,q5];exact .e0 _
   .have hmR:h0<=mR:=by rcases g6 with⟨_,_,_⟩|⟨_,_⟩<;>omega
    refine Res.pure r q4 hrun ?_
    by_cases hz:mR=l0
    .rw[if_pos hz];have q5:h0-l0=0:=by omega
     rw[q5];simp only[Nat.zero_mul,List.take_zero];exact .fz _ _ _ _ _ arr (Nat.zero_le _) e2 (by simp;exact .nil)
    .rw[if_neg hz];refine .fz _ _ _ _ _ arr (by omega) e2 ?_;have hlen:((cs.drop (l0*esz)).take ((h0-l0)*esz)).length=(h0-l0)*esz:=by simp;omega
     rw[hlen];have:=(e4.drop (l0*esz)).take ((h0-l0)*esz);rw[List.drop_take,List.take_take,List.drop_drop]at this;rw[Nat.min_eq_left (by omega)]at this;omega
  .obtain⟨l0,h0,m0,mR,g1,g2,g3,g4,g5,g6⟩:=jW (P:=P) hl hhi hm (zzL 0) h7 true w;have hz:l0=0/\h0=0/\mR=0:=by rcases g6 with⟨_,_,_⟩|⟨_,_⟩<;>omega
   have hrun:(execOp a.eval o).run P w = .ok (.value (.slice a0 0 0)) w:=by
    obtain⟨rfl,rfl,rfl⟩:=hz;cases a0<;>simp[execOp,ho,Instr.sliceAt,qy hu,Instr.slice,e1,g2,zQ h2]
   rcases hgo l0 h0 m0 g1 with⟨q1,q2⟩|⟨q1,q2,q3,q4⟩
   .exact Res.pure r q2 hrun (.e0 _)
   grind[Res.pure]
 .obtain⟨l0,h0,m0,mR,g1,g2,g3,g4,g5,g6⟩:=jW (P:=P) hl hhi hm (zzL 0) h7 true w;have hz:l0=0/\h0=0/\mR=0:=by rcases g6 with⟨_,_,_⟩|⟨_,_⟩<;>omega
  obtain⟨rfl,rfl,rfl⟩:=hz;obtain⟨a0,e1⟩:=h4.un_e0;refine Res.pure r g1 (v':=.slice a0 0 0) ?_ (.e0 _);cases a0<;>simp[execOp,ho,Instr.sliceAt,qy hu,Instr.slice,e1,g2,zQ h2]
 .rename_i b n
  -- a row of one's own
  cases m with
  | some u =>
   have hcall:∀{l0 h0 mR len c:Nat} {a0:Option Addr},a.eval x' = .slice a0 len c->(Instr.sliceBounds true len c (lo'.map a.eval) (hi'.map a.eval) (mx'.map a.eval)).run P w = .ok (l0,h0,mR) w->
     (execOp a.eval o).run P w = .ok (.value (.slice (a0.map λq=>if mR=l0 then q else q.add (l0*esz)) (h0-l0) (mR-l0))) w:=by
    intro l0 h0 mR len c a0 ev g2;simp only[execOp,ho,Instr.sliceAt,Sem.run_bind,qy hu,Result.andThen_ok,Instr.slice,ev,g2,zQ h2,Sem.run_pure]
    congr 3
    cases a0<;>grind
   cases n with
   | zero =>
    have h7':xf 0 0 l hh (some u) (λ_ _ _=>k (.own b 0) h):=h7
    rcases h4.un_own with⟨-,⟨a0,e1⟩,hb⟩|⟨L,c,g1,g2,g3,e1⟩
    .obtain⟨l0,h0,m0,mR,q1,q2,q3,q4,q5,q6⟩:=jW (P:=P) hl hhi hm (zzL 0) h7' true w;have hz:l0=0/\h0=0/\mR=0:=by rcases q6 with⟨_,_,_⟩|⟨_,_⟩<;>omega
     obtain⟨rfl,rfl,rfl⟩:=hz;refine Res.pure r q1 (hcall e1 q2) ?_;exact .own0 _ _ hb
    .obtain⟨l0,h0,m0,mR,q1,q2,q3,q4,q5,q6⟩:=jW (P:=P) hl hhi hm (Nat.zero_le c) h7' true w
     have hz:l0=0/\h0=0/\mR=0:=by
      grind
     obtain⟨rfl,rfl,rfl⟩:=hz;refine Res.pure r q1 (hcall e1 q2) ?_;simp only[Option.map_some,if_true,Nat.sub_zero];exact .own _ _ 0 L g1 (zzL _) (by rw[Nat.zero_mul];omega)
   | succ n =>
    have h7':xf (n+1) (n+1) l hh (some u) (λl h' m=>qw (if m=l then 0 else Nat.mul l esz) (λo'=>qw (h'-l) (λlen'=>qw (m-l) (λcap'=>k (.sl b o' len' cap' false) h)))):=h7
    rcases h4.un_own with⟨hn0,_⟩|⟨L,c,g1,g2,g3,e1⟩
    .omega
    .obtain⟨l0,h0,m0,mR,q1,q2,q3,q4,q5,q6⟩:=jW (P:=P) hl hhi hm g2 h7' true w;simp only[qD]at q1
     have q11:mR=m0:=by
      grind
     subst q11;refine Res.pure r q1 (hcall e1 q2) ?_
     by_cases hz:mR=l0
     .simp only[Option.map_some,if_pos hz];exact .sl _ 0 _ _ _ _ L g1 (.inl rfl)
     .simp only[Option.map_some,if_neg hz,xV];exact .sl _ (l0*esz) _ _ _ _ L g1 (.inl rfl)
  | none =>
   have hcall:∀{l0 h0 mR len c:Nat} {a0:Option Addr},a.eval x' = .slice a0 len c->(Instr.sliceBounds true len c (lo'.map a.eval) (hi'.map a.eval) (mx'.map a.eval)).run P w = .ok (l0,h0,mR) w->
     (execOp a.eval o).run P w = .ok (.value (.slice (a0.map λq=>if mR=l0 then q else q.add (l0*esz)) (h0-l0) (mR-l0))) w:=by
    intro l0 h0 mR len c a0 ev g2;simp only[execOp,ho,Instr.sliceAt,Sem.run_bind,qy hu,Result.andThen_ok,Instr.slice,ev,g2,zQ h2,Sem.run_pure]
    congr 3
    cases a0<;>grind
   cases n with
   | zero =>
    have h7':xf 0 0 l hh none (λ_ _ _=>k (.own b 0) h):=h7
    rcases h4.un_own with⟨-,⟨a0,e1⟩,hb⟩|⟨L,c,g1,g2,g3,e1⟩
    .obtain⟨l0,h0,m0,mR,q1,q2,q3,q4,q5,q6⟩:=jW (P:=P) hl hhi hm (zzL 0) h7' true w;have hz:l0=0/\h0=0/\mR=0:=by rcases q6 with⟨_,_,_⟩|⟨_,_⟩<;>omega
     obtain⟨rfl,rfl,rfl⟩:=hz;refine Res.pure r q1 (hcall e1 q2) ?_;exact .own0 _ _ hb
    .obtain⟨l0,h0,m0,mR,q1,q2,q3,q4,q5,q6⟩:=jW (P:=P) hl hhi hm (Nat.zero_le c) h7' true w
     have hz:l0=0/\h0=0/\mR=c:=by
      rcases q6 with⟨_,_,q7⟩|⟨q7,_⟩
      .exact by omega
      .exact absurd rfl q7
     grind[Res.pure,xV]
   | succ n =>
    have h7':xf (n+1) (n+1) l hh none (λl h' m=>qw (Nat.mul l esz) (λo'=>qw (h'-l) (λlen'=>qw (m-l) (λcap'=>qkK h b esz true (k (.sl b o' len' cap' true) h))))):=h7
    rcases h4.un_own with⟨hn0,_⟩|⟨L,c,g1,g2,g3,e1⟩
    .omega
    .obtain⟨l0,h0,m0,mR,q1,q2,q3,q4,q5,q6⟩:=jW (P:=P) hl hhi hm g2 h7' true w;simp only[qD]at q1;obtain⟨e2,wf,af,cs,hg,q7⟩:=(zk _ _ _).1 q1;obtain⟨q8,q9⟩:=(qd _ _).1 q7;obtain⟨q10,_⟩:=r.cells b L e2 wf af cs g1 hg;have he:L.esz=esz:=q10.trans (by simpa using q8)
     obtain⟨q11,q12⟩:m0=n+1/\mR=c:=by
      grind
     subst q12;refine Res.pure r q9 (hcall e1 q2) ?_;simp only[Option.map_some,xV]
     by_cases hz:mR=l0
     .rw[if_pos hz,hz,Nat.sub_self];have e3:h0-l0=0:=by omega
      have e4:m0-l0=0:=by omega
      rw[e3,e4];exact .slz _ _ _ _ L g1
     .rw[if_neg hz];refine .sl _ _ _ _ _ _ L g1 (.inr ⟨rfl,by omega,?_⟩)
      have hmul:l0*esz+(mR-l0)*esz=mR*esz:=by rw[<- Nat.add_mul];congr 1;omega
      rw[he]at g3 ⊢
      grind
 .rename_i b o' len cap loose;obtain⟨L,c,off,h8,h9,h10⟩:=h4.un_sl;have hcc:cap<=c:=by rcases h10 with⟨_,h|h⟩|⟨_,h,h'⟩<;>omega
  obtain⟨l0,h0,m0,mR,h11,h12,h13,h14,h15,h16⟩:=jW (P:=P) hl hhi hm hcc h7 true w;simp only[qD]at h11
  have h11':k (.sl b (if(loose&&m.isNone)=false/\m0=l0 then o' else o'.add (l0.mul esz)) (h0-l0) (m0-l0) (loose&&m.isNone)) h/\((loose&&m.isNone)=true->L.esz=esz):=by
   revert h11;cases(loose&&m.isNone)with
   | false=>intro h11;exact⟨h11,by grind⟩
   | true =>
    intro h11;obtain⟨e2,wf,af,cs,hg,h17⟩:=(zk _ _ _).1 h11;obtain⟨h18,h19⟩:=(qd _ _).1 h17;obtain⟨h20,_⟩:=r.cells b L e2 wf af cs h8 hg;exact⟨h19,λ_=>h20.trans (by simpa using h18)⟩
  obtain⟨h11,hesz⟩:=h11'
  have hrun:(execOp a.eval o).run P w = .ok (.value (.slice (some (if mR=l0 then⟨L.blk,off,none⟩else⟨L.blk,off+l0*esz,none⟩)) (h0-l0) (mR-l0))) w:=by
   simp only[execOp,ho,Instr.sliceAt,Sem.run_bind,qy hu,Result.andThen_ok,Instr.slice,h9,h12,zQ h2,Option.map_some,Sem.run_pure,xV]
   grind
  refine Res.pure r h11 hrun ?_
  by_cases hz:mR=l0
  .rw[if_pos hz,hz,Nat.sub_self];have e1:h0-l0=0:=by rcases h16 with⟨_,_,_⟩|⟨_,_⟩<;>omega
   have e2:m0-l0=0:=by rcases h16 with⟨_,_,_⟩|⟨_,_⟩<;>omega
   rw[e1,e2];exact .slz _ _ _ _ L h8
  .rw[if_neg hz];rcases h10 with⟨rfl,h10⟩|⟨hl0,hc0,hcr⟩
   .rcases h16 with⟨rfl,rfl,rfl⟩|⟨hmx,rfl⟩
    .-- no max
     have e3:(if(loose&&(none:Option AV).isNone)=false/\m0=l0 then o' else o'.add (l0.mul esz))=o'+l0*esz:=by
      split
      .rename_i hcond;rcases h10 with h10|⟨h10,_⟩
       .omega
       .simp[h10]at hcond
      .rfl
     rw[e3];have e4:L.off+o'+l0*esz=L.off+(o'+l0*esz):=by omega
     rw[e4];refine .sl _ _ _ _ _ _ L h8 ?_;rcases h10 with h10|⟨h10,h17,h18⟩
     .left;omega
     .right;have he:=hesz (by simp[h10]);refine⟨by simp[h10],by omega,?_⟩
      have hmul:l0*esz+(mR-l0)*esz=mR*esz:=by rw[<- Nat.add_mul];congr 1;omega
      rw[he]at h18 ⊢;omega
    .have e3:(if(loose&&m.isNone)=false/\mR=l0 then o' else o'.add (l0.mul esz))=o'+l0*esz:=by
      rw[if_neg (by intro hh;exact hz hh.2)];rfl
     rw[e3];have e4:L.off+o'+l0*esz=L.off+(o'+l0*esz):=by omega
     rw[e4];exact .sl _ _ _ _ _ _ L h8 (.inl rfl)
   omega
end ops
section ops
variable {B:Nat->Prop} {h:Hp} {w:World} {a:Act} {t:Tr AV} {orc:Orc} {k:AV->Hp->Prop} {o:Oper}

def qAA(r:Rel σ Z B h w)(ht:TR σ Z t a.tmps){len esz:Nat}{x:O}{lo hi mx:Option O}{x':Operand}{lo' hi' mx':Option Operand}{ty e:TypeId}(ho:o.op = .slice ty x' lo' hi' mx')(hc:qE x' x=true)(hc1:qba lo' lo=true)(hc2:qba hi' hi=true)(hc3:qba mx' mx=true)(h1:qhS P ty=some (len,e))(h2:zb P e esz=true)(hk:opK orc (.slcA len esz x lo hi mx) t h k):Res P σ Z B h w (execOp a.eval o) k:=by
 obtain⟨v,h3,h4⟩:=zd ht hc hk;obtain⟨b,o',L,h5,h6,h7⟩:=qq6 h4 h3;obtain⟨l,h8,hl⟩:=qhC ht hc1 h7;obtain⟨hh,h9,hhi⟩:=qhC ht hc2 h8;obtain⟨m,h10,hm⟩:=qhC ht hc3 h9;obtain⟨l0,h0,m0,mR,h11,h12,h13,h14,h15,h16⟩:=jW (P:=P) hl hhi hm (zzL len) h10 false w;simp only[qD]at h11;have hmR:mR=m0:=by rcases h16 with⟨_,rfl,rfl⟩|⟨_,rfl⟩<;>rfl
 subst hmR
 have hrun:(execOp a.eval o).run P w = .ok (.value (.slice (some ⟨L.blk,L.off+(if mR=l0 then o' else o'.add (l0.mul esz)),none⟩) (h0-l0) (mR-l0))) w:=by
  simp only[execOp,ho,Instr.sliceAt,Sem.run_bind,qy (qdD h1),Result.andThen_ok,h6,Instr.sureAddr,Sem.run_pure,h12,zQ h2,xV]
  grind
 exact Res.pure r h11 hrun (.sl _ _ _ _ _ _ L h5 (.inl rfl))

def qlQ{q:NK}{x:AV}{x':Value}(hx:VR σ Z x x'){k:Bool->Prop}(hk:jm q x k){ty:TypeId}(hT:qtI P q ty=true){y:Operand}(hy:qeR q y=true)(w:World) :
  ∃c z,k c/\y = .const z/\(Op.equalIn (9999+1) ty x' z).run P w = .ok c w/\(Op.equalIn (9999+1) ty z x').run P w = .ok c w/\(∀cs,x'≠.agg cs)/\(∀cs,z≠.agg cs) /\
   (∀op,op = .eql\/op = .neq->binOp op ty x' z=(do let r <- Op.equal ty x' z;pure (.bool (xor (op == .neq) r)))) /\
   (∀op,op = .eql\/op = .neq->binOp op ty z x'=(do let r <- Op.equal ty z x';pure (.bool (xor (op == .neq) r)))):=by
 unfold qtI at hT;split at hT<;>try (cases hT;done)
 all_goals
  rename_i hu;cases y<;>first|(simp[qeR]at hy;done)|skip
  rename_i z;unfold qeR at hy;split at hy<;>first|(simp at hy;done)|skip
  all_goals
   rename_i hz;cases hz;cases x<;>first|exact hk.elim|skip
   all_goals
    cases hx<;>first|exact(hk:False).elim|skip
   all_goals
    first|refine⟨_,_,hk,rfl,?_,?_,?_,?_,?_,?_⟩|refine⟨_,_,((qd _ _).1 hk).2,rfl,?_,?_,?_,?_,?_,?_⟩
   all_goals first|(intro op hop;rcases hop with rfl|rfl<;>simp[binOp,show(BinOp.eql==BinOp.neq)=false from rfl];done)|(intro cs hh;cases hh;done)|(rw[Op.equalIn];simp[qy hu];done)

def qvj(r:Rel σ Z B h w)(ht:TR σ Z t a.tmps){neg:Bool}{q:NK}{op:BinOp}(hop:(op = .eql/\neg=false)\/(op = .neq/\neg=true)){x:O}{x' y':Operand}{ty uy:TypeId}(ho:o.op = .binOp op ty x' y' uy)
  (hc:(qE x' x=true/\qeR q y'=true)\/(qE y' x=true/\qeR q x'=true)) (hT:qtI P q ty=true) (hk:opK orc (.eqN neg q x) t h k):Res P σ Z B h w (execOp a.eval o) k:=by
 have hop':op = .eql\/op = .neq:=by grind
 have hneg:neg=(op == .neq):=by rcases hop with⟨rfl,rfl⟩|⟨rfl,rfl⟩<;>rfl
 have hg:∀{X Y:Operand} {u v:Value},((∃z,X = .const z)\/∃z,Y = .const z)->(∀cs,u≠.agg cs)->(eqGuard op ty X Y u v).run P w = .ok () w:=by
  intro X Y u v hc hu
  by_cases hn:u = .nilIface
  .subst hn;cases v<;>first|(cases op<;>simp[eqGuard];done)|(rcases hc with⟨z,rfl⟩|⟨z,rfl⟩<;>cases op<;>simp[eqGuard])
  simp_all[qi1]
 rcases hc with⟨hc,hn⟩|⟨hc,hn⟩
 .obtain⟨v,h1,h2⟩:=zd ht hc hk;obtain⟨c,z,h3,rfl,h4,h5,h6,h7,h8,h9⟩:=qlQ (P:=P) h2 h1 hT hn w;rw[qM]at h3;refine Res.pure r h3 (qi2 ho (by simp_all) ?_) (.b _);show(binOp op ty (a.eval x') z).run P w=_;have h4':(Op.equal ty (a.eval x') z).run P w = .ok c w:=h4;rw[h8 op hop',hneg];simp[h4']
 .obtain⟨v,h1,h2⟩:=zd ht hc hk;obtain⟨c,z,h3,rfl,h4,h5,h6,h7,h8,h9⟩:=qlQ (P:=P) h2 h1 hT hn w;rw[qM]at h3;refine Res.pure r h3 (qi2 ho (hg (.inl ⟨z,rfl⟩) h7) ?_) (.b _);show(binOp op ty z (a.eval y')).run P w=_;have h5':(Op.equal ty z (a.eval y')).run P w = .ok c w:=h5;rw[h9 op hop',hneg];simp[h5']

def qls(d:Nat)(xs ys:Array Value)(w:World):∀(fs:List Field) (qs:List PK) (i:Nat) (us vs:List AV),qdt P i fs qs=true->
  VRs σ Z us (xs.toList.drop i)->VRs σ Z vs (ys.toList.drop i)->∀(k:Bool->Prop),jE qs us vs k->∃c,k c/\(Op.eqFields (d+1) xs ys fs).run P w = .ok c w
 | [],qs,i,us,vs,hf,_,_,k,hk=>by
  cases qs with
  | nil=>exact⟨true,hk,by simp[Op.eqFields]⟩
  | cons=>simp[qdt]at hf
 | f::fs,qs,i,us,vs,hf,hu,hv,k,hk=>by
  cases qs with
  | nil=>simp[qdt]at hf
  | cons q qs =>
  cases us with
  | nil=>exact hk.elim
  | cons u us =>
   cases vs with
   | nil=>exact hk.elim
   | cons v vs =>
    have hk':jN q u v (λe=>Bool.rec (motive:=λ_=>Prop) (k false) (jE qs us vs k) e):=hk
    simp only[qdt,zzB,bne_iff_ne,beq_iff_eq]at hf;obtain⟨⟨⟨hn,hof⟩,hty⟩,hf⟩:=hf;obtain⟨u',hu1,hu2⟩:=hu.get (j:=0) rfl;obtain⟨v',hv1,hv2⟩:=hv.get (j:=0) rfl;have hu3:xs[f.offset]?=some u':=by rw[hof];simpa using hu1
    have hv3:ys[f.offset]?=some v':=by rw[hof];simpa using hv1
    have hsome:(P.underlying f.type).isSome=true:=by split at hty<;>simp_all
    have hna:qay P f.type=false:=by unfold qay;split at hty<;>simp_all
    have p1:=(qfu (P:=P) (t:=f.type) xs f.offset w).1 hna hsome hu3;have p2:=(qfu (P:=P) (t:=f.type) ys f.offset w).1 hna hsome hv3
    have heq:∃c:Bool,(Bool.rec (motive:=λ_=>Prop) (k false) (jE qs us vs k) c:Prop)/\(Op.equalIn (d+1) f.type u' v').run P w = .ok c w:=by
     split at hty<;>try (cases hty;done)
     .rename_i hh;cases u<;>try exact hk'.elim
      cases v<;>try exact hk'.elim
      have e1:=hu2.un_b;have e2:=hv2.un_b;subst e1;subst e2
      simp only[jN,qM]at hk';exact⟨_,hk',run_equalIn_bool' w d f.type _ _ hh⟩
     .rename_i hh;cases u<;>try exact hk'.elim
      cases v<;>try exact hk'.elim
      have e1:=hu2.un_i;have e2:=hv2.un_i;subst e1;subst e2
      simp only[jN,qM,qd,qgz]at hk';obtain⟨hq,hk'⟩:=hk';have hqq:=of_decide_eq_true hq;subst hqq;exact⟨_,hk',run_equalIn_int w d f.type _ _ _ _ hh⟩
     .rename_i hh;cases u<;>try exact hk'.elim
      cases v<;>try exact hk'.elim
      have e1:=hu2.un_s;have e2:=hv2.un_s;subst e1;subst e2
      simp only[jN,qM,qb8]at hk';refine⟨_,hk',(run_equalIn_string w d f.type _ _ hh).trans ?_⟩;rw[ByteArray.toList_eq,ByteArray.toList_eq]
    obtain⟨c,hc1,hc2⟩:=heq;cases c with
    | false=>exact⟨false,hc1,by simp[Op.eqFields,hn,p1,p2,hc2]⟩
    | true =>
     obtain⟨c,hc3,hc4⟩:=qls d xs ys w fs qs (i+1) us vs hf
      (by have:=hu.drop 1;simpa using this) (by have:=hv.drop 1;simpa using this) k hc1
     exact⟨c,hc3,by simp[Op.eqFields,hn,p1,p2,hc2,hc4]⟩

def qvi(r:Rel σ Z B h w)(ht:TR σ Z t a.tmps){neg:Bool}{qs:List PK}{op:BinOp}(hop:(op = .eql/\neg=false)\/(op = .neq/\neg=true)){x y:O}{x' y':Operand}{ty uy:TypeId}(ho:o.op = .binOp op ty x' y' uy)
  (hc1:qE x' x=true) (hc2:qE y' y=true) (hf:qkY P ty qs=true) (hk:opK orc (.eqA neg qs x y) t h k):Res P σ Z B h w (execOp a.eval o) k:=by
 obtain⟨u,h1,h2⟩:=zd ht hc1 hk;obtain⟨v,h3,h4⟩:=zd ht hc2 h1;cases u<;>try exact h3.elim
 cases v<;>try exact h3.elim
 obtain⟨xs,h5,h6⟩:=h2.un_agg;obtain⟨ys,h7,h8⟩:=h4.un_agg;unfold qkY at hf;split at hf<;>try (cases hf;done)
 rename_i fs hu;simp only[zzB,Bool.not_eq_true']at hf;obtain⟨⟨hs,hg⟩,hf⟩:=hf;have hfo:P.fieldsOf ty=fs:=by simp[Program.fieldsOf,hu]
 obtain⟨c,h9,h10⟩:=qls (P:=P) 9998 xs ys w fs.toList qs 0 _ _ hf (by simpa using h5) (by simpa using h7) _ h3;rw[qM]at h9
 have h11:(Op.equalIn 10000 ty (.agg xs) (.agg ys)).run P w = .ok c w:=by
  rw[run_equalIn_struct w 9999 ty xs ys (by rw[hfo];exact hu) hs,hfo];exact h10
 refine Res.pure r h9 (qi2 ho ?_ ?_) (.b _)
 .rw[h6,h8];exact run_eqGuard_agg w op ty _ _ _ _ hg
 .rw[h6,h8];rcases hop with⟨rfl,rfl⟩|⟨rfl,rfl⟩
  .rw[run_eql_struct,h11];simp
  .rw[run_neq_struct,h11];simp
end ops

def VRs.splice{l:List AV}{c c':Array Value}{off:Nat}{vs:List AV}{vs':List Value}(hl:VRs σ Z l c.toList)(hv:VRs σ Z vs vs')(h:off+vs.length<=l.length)(hs:Spl c off vs' c') :
  VRs σ Z (l.take off++(vs++l.drop (off+vs.length))) c'.toList:=by
 have h1:=hl.length;have h2:=hv.length;have h3:=hs.size;refine VRs.of_get (by grind) ?_;intro j a ha;rw[Array.getElem?_toList]
 by_cases hj:j<off
 .rw[List.getElem?_append_left (by simp;omega),List.getElem?_take_of_lt hj]at ha
  grind[VRs.get,Spl.out]
 .rw[List.getElem?_append_right (by simp;omega)]at ha;have e1:(l.take off).length=off:=by simp;omega
  rw[e1]at ha
  by_cases hj2:j<off+vs.length
  .rw[List.getElem?_append_left (by omega)]at ha;obtain⟨v,hv1,hv2⟩:=hv.get ha;refine⟨v,?_,hv2⟩;have:=hs.inn _ _ hv1;rwa [show off+(j-off)=j from by omega]at this
  grind[VRs.get,Spl.out]

def qpe(off:Nat):∀(vs:List Value) (s:Nat) (c:Array Value),off+s+vs.length<=c.size->
  Spl c (off+s) vs ((vs.zipIdx s).foldl (λcs p=>cs.setIfInBounds (off+p.2) p.1) c)
 | [],s,c,_=>⟨rfl,λ_ _=>rfl,λj v hv=>by grind⟩
 | v::vs,s,c,h=>by
  simp only[List.length_cons]at h;rw[List.zipIdx_cons,List.foldl_cons];have ih:=qpe off vs (s+1) (c.setIfInBounds (off+s) v) (by grind);refine⟨by rw[ih.size];simp,?_,?_⟩
  .intro j hj;simp only[List.length_cons]at hj;rw[ih.out j (by omega),Array.getElem?_setIfInBounds,if_neg (by omega)]
  .intro j u hu;cases j with
   | zero =>
    simp at hu;subst hu;rw[ih.out _ (by omega),Array.getElem?_setIfInBounds];grind
   | succ j =>
    have:=ih.inn j u (by simp_all);rwa [show off+(s+1)+j=off+s+(j+1)from by omega]at this

def qk0(hσ:qae σ){t:Tr AV}{a:Act}(ht:TR σ Z t a.tmps)(ql3:Nat->Option (Nat×Nat)):∀(xs:List (Nat×Operand)) (ps:List (Nat×Nat×O)) (l:List AV) (c:Array Value),qas ql3 xs ps=true->VRs σ Z l c.toList->
  ∀(k:List AV->Prop),qah t ps l k->∃l' c',k l'/\VRs σ Z l' c'.toList/\Instr.fill ql3 c (xs.map λp=>(p.1,a.eval p.2))=some c'
 | [],ps,l,c,hc,hv,k,hk=>by
  cases ps with
  | nil=>exact⟨l,c,hk,hv,rfl⟩
  | cons=>simp[qas]at hc
 | (i,x)::xs,ps,l,c,hc,hv,k,hk=>by
  cases ps with
  | nil=>simp[qas]at hc
  | cons p ps =>
   obtain⟨off,n,y⟩:=p;simp only[qas,zzB,beq_iff_eq]at hc;obtain⟨⟨hp,hx⟩,hc⟩:=hc;have hk':evK t y (λv=>qo (qcR v) (qw off (λoff=>qhO (cellsOf v) (λm=>qo (Nat.beq m n) (ju (cellsOf v) off l (λl'=>qah t ps l' k)))))):=hk
   obtain⟨v,h1,h2⟩:=zd ht hx hk';obtain⟨hd,h3⟩:=(qd _ _).1 h1;rw[qD,wj]at h3;obtain⟨hn,h4⟩:=(qd _ _).1 h3;obtain⟨h5,h6⟩:=(jL _ _ _ _).1 h4;have hvs:=VRs.cells hσ h2 hd;have hl:=hvs.length;have hl2:=hv.length;have hn':(cellsOf v).length=n:=by simpa using hn
   have hspl:=qpe off (a.eval x).cells.toList 0 c (by simp at hl hl2 ⊢;omega);obtain⟨l',c',h7,h8,h9⟩:=qk0 hσ ht ql3 xs ps _ _ hc (VRs.splice hv hvs (by omega) hspl) k h6;refine⟨l',c',h7,h8,?_⟩;have e1:¬((a.eval x).cells.size≠n):=by simp at hl;omega
   have e2:¬(off+(a.eval x).cells.size > c.size):=by simp at hl hl2;omega
   simp only[List.map_cons,Instr.fill,hp];rw[if_neg (by simp;simp at e1 e2;omega)];rw[<- h9]
   grind[Array.toList_zipIdx]

def qme{z:List AV}{zero:Array Value}(hz:VRs σ Z z zero.toList)(n:Nat)(zero':Array Value)(h0:n*z.length=0\/zero'=zero) :
  VRs σ Z (List.replicate n z).flatten ((Array.range (n*z.length)).map (λi=>zero'[i % zero'.size]!)).toList:=by
 have hl:=hz.length;refine VRs.of_get (by simp_all) ?_;intro j a ha
 have hj:j<n*z.length:=by
  have:=(zzS.1 ha).1
  simp_all
 have hz0:0<z.length:=Nat.pos_of_ne_zero (by grind);rcases h0 with h0|rfl
 .omega
 .have hm:j % z.length<z.length:=Nat.mod_lt _ hz0
  have ha':z[j % z.length]?=some a:=by
   have key:∀(n j:Nat),j<n*z.length->(List.replicate n z).flatten[j]?=z[j % z.length]?:=by
    intro n
    induction n with
    | zero=>intro j hj;simp at hj
    | succ n ih =>
     intro j hj;rw[List.replicate_succ,List.flatten_cons]
     by_cases hlt:j<z.length
     .rw[List.getElem?_append_left hlt,Nat.mod_eq_of_lt hlt]
     .rw[List.getElem?_append_right (by omega),ih _ (by rw[Nat.add_mul,Nat.one_mul]at hj;omega)];rw[Nat.mod_eq_sub_mod (by omega:j ≥ z.length)]
   rw[<- key n j hj];exact ha
  grind[VRs.get]

def qpL(fs:Array Field)(hf:∀f ∈ fs.toList,(P.info? f.type).isSome=true)(w:World) :
  (fs.mapM (λf=>(do pure (f.offset,<- sizeOf f.type):Sem (Nat×Nat)))).run P w = .ok (fs.map λf=>(f.offset,P.cellsOf f.type)) w:=by
 have hpl:∀(l:List Field),(∀f ∈ l,(P.info? f.type).isSome=true)->(List.mapM (λ(f:Field)=>(do pure (f.offset,<- sizeOf f.type):Sem (Nat×Nat))) l).run P w = .ok (l.map λf=>(f.offset,P.cellsOf f.type)) w:=by
  intro l
  induction l with
  | nil=>intro _;simp
  | cons f l ih =>
   intro hl;obtain⟨j,hj⟩:=Option.isSome_iff_exists.1 (hl f (by simp));rw[List.mapM_cons];simp only[Sem.run_bind,Sem.run_pure,sizeOf,typeInfo,run_program,hj,Result.andThen_ok]at ih ⊢;rw[ih (by simp_all)];simp[Program.cellsOf,hj]
 obtain⟨l⟩:=fs;rw[List.mapM_toArray]
 simp_all

section ops
variable {B:Nat->Prop} {h:Hp} {w:World} {a:Act} {t:Tr AV} {orc:Orc} {k:AV->Hp->Prop} {o:Oper}

def quG(hσ:qae σ)(r:Rel σ Z B h w)(ht:TR σ Z t a.tmps){z:List AV}{ps:List (Nat×Nat×O)}{ty:TypeId}{xs:Array (Nat×Operand)}(ho:o.op = .build ty xs)(hz:qaf P ty z=true)
  (hc:(match P.underlying ty with
   | some (.struct fs)=>qas (λi=>(fs[i]?).bind λf=>(P.info? f.type).map λj=>(f.offset,j.size)) xs.toList ps&&fs.toList.all λf=>(P.info? f.type).isSome
   | some (.array _ e)=>(match P.info? e with|some j=>qas (λi=>some (i*j.size,j.size)) xs.toList ps|none=>false)
   | _=>false)=true) (hk:opK orc (.build z ps) t h k):Res P σ Z B h w (execOp a.eval o) k:=by
 obtain⟨i,v,h1,h2,h3,h4⟩:=qdB hz;have hv:=qbX (σ:=σ) (Z:=Z) _ _ h3;have hk':qah t ps z (λcs=>k (.agg cs) h):=hk
 split at hc<;>try (cases hc;done)
 .rename_i fs hu;simp only[zzB]at hc;obtain⟨l',c',h5,h6,h7⟩:=qk0 hσ ht _ _ _ _ _ hc.1 hv _ hk';refine Res.pure r h5 (v':=.agg c') ?_ (.agg _ _ h6);have hmap:=qpL (P:=P) fs (by grind) w
  have hplace:(λ(i:Nat)=>(fs.map λ(f:Field)=>(f.offset,P.cellsOf f.type))[i]?)=(λ(i:Nat)=>(fs[i]?).bind λ(f:Field)=>(P.info? f.type).map λj=>(f.offset,j.size)):=by
   funext i;rw[Array.getElem?_map];cases hi:fs[i]? with
   | none=>rfl
   | some f =>
    have hm:f ∈ fs.toList:=by
     rw[Array.getElem?_eq_some_iff]at hi;obtain⟨hlt,rfl⟩:=hi;simp
    have hs:=(List.all_eq_true.1 hc.2) f hm;obtain⟨j,hj⟩:=Option.isSome_iff_exists.1 hs;simp[Program.cellsOf,hj]
  simp only[execOp,ho,Instr.build,Sem.run_bind,qcN h1 h2,Result.andThen_ok,qy hu,hmap,hplace];have h7':Instr.fill (λi=>(fs[i]?).bind λ(f:Field)=>(P.info? f.type).map λj=>(f.offset,j.size)) v.cells (xs.map λp=>(p.1,a.eval p.2)).toList=some c':=by rw[Array.toList_map];exact h7
  simp_all
 .rename_i n e hu;cases he:P.info? e with
  | none=>simp_all
  | some j =>
   simp only[he]at hc;obtain⟨l',c',h5,h6,h7⟩:=qk0 hσ ht _ _ _ _ _ hc hv _ hk';refine Res.pure r h5 (v':=.agg c') ?_ (.agg _ _ h6);have h7':Instr.fill (λi=>some (i*j.size,j.size)) v.cells (xs.map λp=>(p.1,a.eval p.2)).toList=some c':=by rw[Array.toList_map];exact h7
   simp only[execOp,ho,Instr.build,Sem.run_bind,qcN h1 h2,Result.andThen_ok,qy hu,sizeOf,typeInfo,run_program,he,Sem.run_pure,h7']

def qsL(hσ:qae σ)(r:Rel σ Z B h w)(ht:TR σ Z t a.tmps){n:Nat}{z:List AV}{ps:List (Nat×Nat×O)}{ty e:TypeId}{xs:Array (Nat×Operand)}(ho:o.op = .buildSlice ty n xs)(he:xr P ty=some e)(hz:qaf P e z=true)(hb:n*z.length<=16777216)
  {j:TypeInfo} (hj:P.info? e=some j) (hc:qas (λi=>some (i*j.size,j.size)) xs.toList ps=true) (hk:opK orc (.buildS n z ps) t h k):Res P σ Z B h w (execOp a.eval o) k:=by
 obtain⟨i,v,h1,h2,h3,h4⟩:=qdB hz;rw[hj]at h1;cases h1;have hv:=qbX (σ:=σ) (Z:=Z) _ _ h3;have hl:=hv.length;have hsz:z.length=j.size:=by simp_all
 have hk':qjD z n (λcs=>qah t ps cs (λcs=>jz h (.cells 0 true false cs) (λb h'=>k (.sl b 0 n n false) h'))):=hk
 rw[qaF]at hk';have hrep:=qme hv n (if n*z.length=0 then #[]else v.cells) (by split<;>simp_all)
 obtain⟨l',c',h5,h6,h7⟩:=qk0 hσ ht _ _ _ _ _ hc hrep _ hk';have hl6:=h6.length;obtain⟨Z',h',h8,h9,h10,h11⟩:=qeW (w1:={ w with heap:=w.heap.push (.cells c' e) }) r (c:=c') (by grind) h5 rfl;refine⟨_,_,h',Z',_,h8,.inl (?_:_=Result.ok (Next.value (.slice (some ⟨w.heap.size,0+0,none⟩) n n)) { w with heap:=w.heap.push (.cells c' e) }),.sl _ 0 _ _ _ _ _ h11 (.inl rfl),h9,h10⟩;have hb':¬(n*j.size > 2 ^ 24):=by rw[<- hsz];omega
 have h7':Instr.fill (λi=>some (i*j.size,j.size)) ((Array.range (n*j.size)).map (λi=>(if n*j.size=0 then #[]else v.cells)[i % (if n*j.size=0 then #[]else v.cells).size]!)) (xs.map λp=>(p.1,a.eval p.2)).toList=some c':=by
  rw[Array.toList_map];rw[hsz]at h7;exact h7
 simp only[execOp,ho,Instr.buildSlice,Sem.run_bind,qy (zV he),Result.andThen_ok,sizeOf,typeInfo,run_program,hj,Sem.run_pure];rw[if_neg hb']
 by_cases hz0:n*j.size=0
 .simp only[hz0,if_true]at h7' ⊢;simp only[Sem.run_bind,Sem.run_pure,Result.andThen_ok,h7',newRow,run_newObj,Nat.add_zero]
 .simp only[hz0,if_false]at h7' ⊢;simp only[Sem.run_bind,qcN hj h2,Sem.run_pure,Result.andThen_ok,h7',newRow,run_newObj,Nat.add_zero]

def qiM{n:Nat}(h:n<=70368744177664):IntKind.i64.wrap (n:Int)=n:=by
 simp[IntKind.wrap,IntKind.bits,IntKind.signed];omega

def qDB(r:Rel σ Z B h w)(ht:TR σ Z t a.tmps){esz bytes:Nat}{z:List AV}{len cap:O}{l' c':Operand}{ty e:TypeId}(ho:o.op = .makeSlice ty l' c')(hc1:qE l' len=true)(hc2:qE c' cap=true)(he:xr P ty=some e)(hb:qbA P e bytes=true)(hz:qaf P e z=true)(hk:opK orc (.mkS esz bytes z len cap) t h k):Res P σ Z B h w (execOp a.eval o) k:=by
 obtain⟨i,v,h1,h2,h3,h4⟩:=qdB hz;obtain⟨i',hi',h5⟩:=qiq hb;rw[h1]at hi';cases hi';have hv:=qbX (σ:=σ) (Z:=Z) _ _ h3;have hl:=hv.length;have hsz:z.length=i.size:=by simp_all
 obtain⟨u,h6,h7⟩:=zd ht hc1 hk;obtain⟨x,h8,h9⟩:=zd ht hc2 h6;obtain⟨q,n,e1,h10⟩:=qd6 h7 h8;obtain⟨q',m,e2,h11⟩:=qd6 h9 h10;obtain⟨h12,h11⟩:=(qd _ _).1 h11;obtain⟨h13,h11⟩:=(qd _ _).1 h11;obtain⟨h14,h11⟩:=(qd _ _).1 h11;rw[qaF]at h11;rw[qe7]at h12 h13 h14;have g1:n<=m:=by simp_all
 have g2:m<=70368744177664:=of_decide_eq_true h13;have g3:bytes*m<=70368744177664:=of_decide_eq_true h14;have hrep:=qme hv m (if m*z.length=0 then #[]else v.cells) (by split<;>simp_all)
 have hl6:=hrep.length;obtain⟨Z',h',h18,h19,h20,h21⟩:=qeW (w1:={ w with heap:=w.heap.push (.cells ((Array.range (m*z.length)).map (λi=>(if m*z.length=0 then #[]else v.cells)[i % (if m*z.length=0 then #[]else v.cells).size]!)) e) }) r ⟨_,rfl,by rw[hl6,List.take_length];omega⟩ h11 rfl
 refine⟨_,_,h',Z',_,h18,.inl (?_:_=Result.ok (Next.value (.slice (some ⟨w.heap.size,0+0,none⟩) n m)) { w with heap:=w.heap.push (.cells ((Array.range (m*z.length)).map (λi=>(if m*z.length=0 then #[]else v.cells)[i % (if m*z.length=0 then #[]else v.cells).size]!)) e) }),.sl _ 0 _ _ _ _ _ h21 (.inl rfl),h19,h20⟩
 have w1:=qiM (Nat.le_trans g1 g2);have w2:=qiM g2;have t1:¬((m:Int)<0):=by omega
 have t2:¬((n:Int)<0):=by omega
 have t3:¬((n:Int) > (m:Int)):=by omega
 have t4:¬((i.bytes:Int)*(m:Int) > 2 ^ 48):=by
  rw[h5];have:((bytes*m:Nat):Int)<=70368744177664:=Int.ofNat_le.2 g3;rw[Int.natCast_mul]at this;omega
 have hs:(sizeOf e).run P w = .ok i.size w:=zQ (by unfold zb;rw[h1];simp) w;simp only[execOp,ho,Instr.makeSlice,Sem.run_bind,qy (zV he),Result.andThen_ok,e1,e2,asInt,asIntOf,Sem.run_pure,qvU h1,w1,w2];simp only[t1,t2,t3,t4,decide_false,Bool.or_false,Bool.false_eq_true,if_false,Sem.run_bind,run_askRoom,Result.andThen_ok,Int.toNat_natCast,hs];rw[hsz]
 by_cases hz0:m*i.size=0
 .simp only[hz0,if_true];simp only[Sem.run_bind,Sem.run_pure,Result.andThen_ok,newRow,run_newObj,Nat.add_zero]
 .simp only[hz0,if_false];simp only[Sem.run_bind,qcN h1 h2,Sem.run_pure,Result.andThen_ok,newRow,run_newObj,Nat.add_zero]
end ops
section ops
variable {B:Nat->Prop} {h:Hp} {w:World} {a:Act} {t:Tr AV} {orc:Orc} {k:AV->Hp->Prop} {o:Oper}

def quI(l:List UInt8):VRs σ Z (l.map λc=>AV.i .u8 (Int.ofNat c.toNat)) (l.map λc=>Value.int .u8 (c.toNat:Int)):=by
 induction l with
 | nil=>exact .nil
 | cons c l ih=>exact .cons _ _ _ _ (.i _ _) ih

def qt2(w:World)(a:Addr):(loadCells a 0).run P w = .ok #[] w:=by
 have:=run_loadCells_list (P:=P) w a [] (by simp_all);omega
def qj2(w:World)(esz:Nat)(a:Option Addr):(Builtin.firstCells esz 0 (.slice a 0 0)).run P w = .ok #[] w:=by
 cases a with
 | none=>simp[Builtin.firstCells]
 | some a=>simpa[Builtin.firstCells]using qt2 (P:=P) w a
def qE1(r:Rel σ Z B h w){esz:Nat}{x:AV}{x':Value}(hx:VR σ Z x x'){k:Nat->List AV->Prop}(hk:qco h esz x k) :
  ∃n cs vs,k n cs/\VRs σ Z cs vs/\vs.length=n*esz/\(∀w',w'.heap=w.heap->(Builtin.lenOf x').run P w' = .ok n w')/\(∀m,m<=n->∀w',w'.heap=w.heap->(Builtin.firstCells esz m x').run P w' = .ok (vs.take (m*esz)).toArray w'):=by
 cases x<;>try exact hk.elim
 .-- a string
  rename_i l;obtain⟨h1,h2⟩:=(qd _ _).1 hk;rw[qD]at h2;have he:esz=1:=by simpa using h1
  subst he;have e:=hx.un_s;refine⟨l.length,_,_,h2,quI l,by simp,λw' _=>by rw[e];simp[Builtin.lenOf,qrh],λm hm w' _=>?_⟩
  rw[e];simp only[Builtin.firstCells,Sem.run_pure,zzU]
  simp_all
 .exact⟨0,[],[],hk,.nil,by simp,λw' _=>by rw[hx.un_nils];simp[Builtin.lenOf],λm hm w' _=>by rw[hx.un_nils];simp[Builtin.firstCells]⟩
 .rename_i b o n cap loose;obtain⟨L,c,off,h1,h2,h3⟩:=hx.un_sl;obtain⟨cs,vs,h4,h5,h6,h7⟩:=qha r h1 (show qeV h b o (n*esz) (λcs=>k n cs)from hk)
  refine⟨n,cs,vs,h4,h5,h6,λw' _=>by rw[h2];simp[Builtin.lenOf],λm hm w' hw=>?_⟩
  rw[h2];simp only[Builtin.firstCells];have hmn:m*esz<=n*esz:=Nat.mul_le_mul_right _ hm;refine qdp (by simp;omega) (λj v hj=>?_)
  rw[List.getElem?_take]at hj;split at hj
  .have:=h7 j v hj;rcases h3 with⟨rfl,_⟩|⟨h3,_,_⟩
   .have hc:∀a,w'.cell? a=w.cell? a:=λa=>by simp[World.cell?,hw]
    rw[hc];exact this
   .subst h3;simp at hmn;omega
  simp_all
 .-- a row that stays
  rename_i n cs;obtain⟨h1,h2⟩:=(zH _ _ _).1 hk;have h1:n*esz<=cs.length:=h1;rcases hx.un_fz with⟨k0,off,c,arr,e1,e2,e3,e5⟩|⟨rfl,rfl,a0,e1⟩
  .have hcl:=e5.length;refine⟨n,_,((arr.toList.drop off).take cs.length).take (n*esz),h2,(e5.take _).vr,by simp at hcl ⊢;omega,λw' _=>by rw[e1];simp[Builtin.lenOf],λm hm w' hw=>?_⟩
   rw[e1];simp only[Builtin.firstCells];have hmn:m*esz<=n*esz:=Nat.mul_le_mul_right _ hm
   grind[qdp,Rel.frz,qcx]
  .exact⟨0,_,[],h2,by simp;exact .nil,by simp,λw' _=>by rw[e1];simp[Builtin.lenOf],λm hm w' _=>by
    simp_all[qj2]⟩
 .obtain⟨a0,e1⟩:=hx.un_e0
  exact⟨0,[],[],hk,.nil,by simp,λw' _=>by rw[e1];simp[Builtin.lenOf],λm hm w' _=>by
   simp_all[qj2]⟩
 .rename_i b n;have hk':qeV h b 0 (n*esz) (λcs=>k n cs):=hk
  rcases hx.un_own with⟨rfl,⟨a0,e1⟩,_⟩|⟨L,c,h1,h2,h3,e1⟩
  .obtain⟨e,wf,af,cs,hg,hn⟩:=(zk _ _ _).1 hk';obtain⟨_,hn⟩:=(zL _ _ _).1 hn;obtain⟨_,hn⟩:=(zH _ _ _).1 hn;simp only[Nat.zero_mul,List.take_zero]at hn
   exact⟨0,[],[],hn,.nil,by simp,λw' _=>by rw[e1];simp[Builtin.lenOf],λm hm w' _=>by
    simp_all[qj2]⟩
  .obtain⟨cs,vs,h4,h5,h6,h7⟩:=qha r h1 hk';refine⟨n,cs,vs,h4,h5,h6,λw' _=>by rw[e1];simp[Builtin.lenOf],λm hm w' hw=>?_⟩
   rw[e1];simp only[Builtin.firstCells];have hmn:m*esz<=n*esz:=Nat.mul_le_mul_right _ hm;refine qdp (by simp;omega) (λj v hj=>?_)
   rw[List.getElem?_take]at hj;split at hj
   .have:=h7 j v hj;have hc:∀a,w'.cell? a=w.cell? a:=λa=>by simp[World.cell?,hw]
    rw[hc];simpa using this
   simp_all
 .obtain⟨a0,c0,e1⟩:=hx.un_nz
  exact⟨0,[],[],hk,.nil,by simp,λw' _=>by rw[e1];simp[Builtin.lenOf],λm hm w' _=>by
   obtain rfl:m=0:=by omega
   rw[e1];simpa[Builtin.firstCells]using qj2 (P:=P) w' esz (some a0)⟩

theorem jn{ts tx rt elem:TypeId}{args:Array TypeId}(h0:args[0]?=some ts)(h1:args[1]?=some tx)(hu:P.underlying ts=some (.slice elem))(hx:P.underlying tx=some .string\/∃e,P.underlying tx=some (.slice e)){size:Nat}(hs:zb P elem size=true)
  {x':Value} {n sLen sCap:Nat} {a0:Option Addr} {new:Array Value} {w w':World} (hl:(Builtin.lenOf x').run P w = .ok n w) (hf:(Builtin.firstCells size n x').run P w = .ok new w) (hfit:sLen+n<=sCap)
  (hst:∀a,a0=some a->(storeCells (a.add (sLen*size)) new.toList).run P w = .ok () w') (hst0:a0=none->w'=w) :
  (Builtin.append_ args rt #[.slice a0 sLen sCap,x']).run P w = .ok (.slice a0 (sLen+n) sCap) w':=by
 rcases hx with hx|⟨e,hx⟩<;>cases a0 with
 | none=>obtain rfl:=hst0 rfl;simp[Builtin.append_,h0,h1,qy hu,qy hx,zQ hs,hl,hfit,hf]
 | some a=>simp[Builtin.append_,h0,h1,qy hu,qy hx,zQ hs,hl,hfit,hf,hst a rfl]

def qhp(z:Array Value)(n:Nat):(Builtin.zeroCells z n).size=n*z.size:=by simp[Builtin.zeroCells]

def qdh{ts tx rt elem:TypeId}{args:Array TypeId}(h0:args[0]?=some ts)(h1:args[1]?=some tx)(hu:P.underlying ts=some (.slice elem))(hx:P.underlying tx=some .string\/∃e,P.underlying tx=some (.slice e)){size:Nat}{i:TypeInfo}(hi:P.info? elem=some i)(hsz:i.size=size){z:Value}(hz:i.zero=some z)
  {x':Value} {n sLen sCap:Nat} {a0:Option Addr} {new old:Array Value} {w:World} (hl:(Builtin.lenOf x').run P w = .ok n w) (hf:(Builtin.firstCells size n x').run P w.drew = .ok new w.drew) (ho:(Builtin.firstCells size sLen (.slice a0 sLen sCap)).run P w.drew = .ok old w.drew)
  (hgrow:sCap<sLen+n) (hb1:sLen+n<=qf) (hb2:(sLen+n)*i.bytes<=qf) :
  ∃newCap rest w',sLen+n<=newCap/\rest.size=(newCap-(sLen+n))*z.cells.size/\w'.heap=w.heap.push (.cells (old++new++rest) elem)/\(w'.os=w.os/\w'.output=w.output) /\
   (Builtin.append_ args rt #[.slice a0 sLen sCap,x']).run P w = .ok (.slice (some ⟨w.heap.size,0,none⟩) (sLen+n) newCap) w':=by
 have hn:¬(sLen+n<=sCap):=by omega
 have hb1':sLen+n<=70368744177664:=hb1;have hb2':(sLen+n)*i.bytes<=70368744177664:=hb2;have h63:¬(IntKind.max .i64<((sLen+n:Nat):Int)):=by show¬((9223372036854775807:Int)<_);omega
 have h63':¬(9223372036854775807<((sLen:Int)+(n:Int))):=by omega
 have h48:¬(281474976710656<Builtin.nextslicecap (sLen+n) sCap*i.bytes):=by
  have:=growslice_fits (bytes:=i.bytes) hgrow (by omega);omega
 refine⟨grownCap w (sLen+n) sCap elem,Builtin.zeroCells z.cells (grownCap w (sLen+n) sCap elem-(sLen+n)),w.drew.alloc (.cells (old++new++Builtin.zeroCells z.cells (grownCap w (sLen+n) sCap elem-(sLen+n))) elem),?_,qhp _ _,rfl,⟨rfl,rfl⟩,?_⟩
 .exact Nat.le_add_right (sLen+n) _
 .rcases hx with hx|⟨e,hx⟩ <;>
  simp[Builtin.append_,h0,h1,qy hu,qy hx,sizeOf,typeInfo,zeroValue,hi,hz,hsz,hl,hn,h63',h48,Question.forced,hf,ho,newRow,grownCap]

def qhQ{ts tx rt elem:TypeId}{args:Array TypeId}(h0:args[0]?=some ts)(h1:args[1]?=some tx)(hu:P.underlying ts=some (.slice elem)){q:IntKind}(hx:P.underlying tx=some (.int q)){size:Nat}{i:TypeInfo}(hi:P.info? elem=some i)(hsz:i.size=size){z:Value}(hz:i.zero=some z)(hzs:z.cells.size=size)
  {q':IntKind} {n sLen sCap:Nat} {a0:Option Addr} {old:Array Value} {w:World} (ho:(Builtin.firstCells size sLen (.slice a0 sLen sCap)).run P w.drew = .ok old w.drew)
  (hgrow:sCap<sLen+n) (hb1:sLen+n<=qf) (hb2:(sLen+n)*i.bytes<=qf) :
  ∃newCap rest w',sLen+n<=newCap/\rest.size=(newCap-(sLen+n))*z.cells.size/\w'.heap=w.heap.push (.cells (old++(Array.range (n*size)).map (λi=>z.cells[i % z.cells.size]!)++rest) elem)/\(w'.os=w.os/\w'.output=w.output) /\
   (Builtin.append_ args rt #[.slice a0 sLen sCap,.int q' (n:Int)]).run P w = .ok (.slice (some ⟨w.heap.size,0,none⟩) (sLen+n) newCap) w':=by
 have hn:¬(sLen+n<=sCap):=by omega
 have hb1':sLen+n<=70368744177664:=hb1;have hb2':(sLen+n)*i.bytes<=70368744177664:=hb2;have h63':¬(9223372036854775807<((sLen:Int)+(n:Int))):=by omega
 have h48:¬(281474976710656<Builtin.nextslicecap (sLen+n) sCap*i.bytes):=by
  have:=growslice_fits (bytes:=i.bytes) hgrow (by omega);omega
 have hw:IntKind.wrap .i64 (n:Int)=(n:Int):=qiM (by omega);have hneg:¬((n:Int)<0):=by omega
 have hnb:n*i.bytes<=70368744177664:=Nat.le_trans (Nat.mul_le_mul_right _ (Nat.le_add_left _ _)) hb2'
 have h48':¬(281474976710656<(n:Int)*(i.bytes:Int)):=by
  have:((n*i.bytes:Nat):Int)<=70368744177664:=Int.ofNat_le.2 hnb;rw[Int.natCast_mul]at this;omega
 refine⟨grownCap w (sLen+n) sCap elem,Builtin.zeroCells z.cells (grownCap w (sLen+n) sCap elem-(sLen+n)),w.drew.alloc (.cells (old++(Array.range (n*size)).map (λi=>z.cells[i % z.cells.size]!)++Builtin.zeroCells z.cells (grownCap w (sLen+n) sCap elem-(sLen+n))) elem),?_,qhp _ _,rfl,⟨rfl,rfl⟩,?_⟩
 .exact Nat.le_add_right (sLen+n) _
 .by_cases hz0:n*size=0
  .simp[Builtin.append_,h0,h1,qy hu,qy hx,sizeOf,typeInfo,zeroValue,hi,hz,hsz,hn,h63',h48,h48',hw,hneg,asInt,asIntOf,Question.forced,ho,newRow,grownCap,hz0];rw[show Array.map (λi=>z.cells[i % z.cells.size]!) (Array.range 0) = #[]from by simp,Array.empty_append]
  .simp[Builtin.append_,h0,h1,qy hu,qy hx,sizeOf,typeInfo,zeroValue,hi,hz,hsz,hn,h63',h48,h48',hw,hneg,asInt,asIntOf,Question.forced,ho,newRow,grownCap,hz0,Builtin.zeroCells,hzs]

def VRs.pre{zy:List AV}{c:Array Value}{vs rest:List Value}(h:VRs σ Z zy vs)(hc:c.toList=vs++rest):∃z:List Value,c.toList=z/\VRs σ Z zy (z.take zy.length) :=
 ⟨_,hc,by rw[h.length,List.take_left];exact h⟩

def qye(r:Rel σ Z B h w)(ht:TR σ Z t a.tmps){esz bytes:Nat}{z:List AV}{s x:O}{s' x':Operand}{ts tx elem:TypeId}{args:Array TypeId}{ops:Array Operand}(ho:o.op = .call ⟨.builtin .append,ops,args⟩)(hops:ops.toList=[s',x'])
  (h0':args[0]?=some ts) (h1':args[1]?=some tx) (he:xr P ts=some elem) (hx:qqM P tx=true) (hs:zb P elem esz=true) (hb:qbA P elem bytes=true) (hz:qaf P elem z=true)
  (hc1:qE s' s=true) (hc2:qE x' x=true) (hk:opK orc (.appZ esz bytes z s x) t h k):Res P σ Z B h w (execOp a.eval o) k:=by
 obtain rfl:ops = #[s',x']:=by cases ops;simpa using hops
 obtain⟨i,v,hi,hzv,hvr,hvs⟩:=qdB hz;obtain⟨i',hi',hsz⟩:=qkl hs;rw[hi]at hi';cases hi';obtain⟨i',hi',hby⟩:=qiq hb;rw[hi]at hi';cases hi'
 obtain⟨q,hq⟩:∃q,P.underlying tx=some (.int q):=by
  unfold qqM at hx;split at hx
  .exact⟨_,by assumption⟩
  .cases hx
 have hv:=qbX (σ:=σ) (Z:=Z) _ _ hvr;have hl:=hv.length;have hzl:z.length=esz:=by simp at hl;omega
 obtain⟨u,h2,h3⟩:=zd ht hc1 hk;obtain⟨v2,h4,h5⟩:=zd ht hc2 h2;obtain⟨q',n,e1,h6⟩:=qd6 h5 h4;have hu:=zV he;cases u<;>try exact h6.elim
 .have g2:=h3.un_nils;obtain⟨h7,h6⟩:=(qd (Nat.ble 1 n) _).1 h6;obtain⟨h8,h6⟩:=(qd (Nat.ble n qf) _).1 h6;obtain⟨h9,h6⟩:=(qd (Nat.ble (n*bytes) qf) _).1 h6;rw[qe7]at h7 h8 h9;have b0:1<=n:=of_decide_eq_true h7;have b1:n<=qf:=by simpa using h8
  have b2:n*bytes<=qf:=by simpa using h9
  rw[qaF]at h6;obtain⟨newCap,rest,w',e3,e5,e6,eio,e7⟩:=qhQ (rt:=o.type) (q':=q') (a0:=none) (sLen:=0) (sCap:=0) (n:=n) h0' h1' hu hq hi hsz hzv (by rw[hvs];exact hsz) (old:=#[]) (w:=w) (by simp[Builtin.firstCells]) (by omega) (by omega) (by rw[hby,Nat.zero_add];exact b2);have hrep:=qme hv n v.cells (.inr rfl);rw[hzl]at hrep;have hsize:(#[]++(Array.range (n*esz)).map (λi=>v.cells[i % v.cells.size]!)++rest:Array Value).toList=((Array.range (n*esz)).map (λi=>v.cells[i % v.cells.size]!)).toList++rest.toList:=by simp
  obtain⟨Z',h',f3,f4,f5,f6⟩:=qeW (w1:=w') r (c:=#[]++(Array.range (n*esz)).map (λi=>v.cells[i % v.cells.size]!)++rest) (VRs.pre hrep hsize) h6 e6 (hio:=eio)
  refine⟨_,.slice (some ⟨w.heap.size,0,none⟩) n newCap,h',Z',w',f3,.inl ?_,?_,f4,f5⟩
  .simp only[execOp,ho,resolve,invoke,builtin];simp[g2,e1];rw[e7];simp
  .exact VR.own _ _ newCap _ f6 (by omega) (by
    have q1:(#[]++(Array.range (n*esz)).map (λi=>v.cells[i % v.cells.size]!)++rest:Array Value).size=n*esz+(newCap-(0+n))*esz:=by
     rw[Array.size_append,e5,hvs,hsz];simp
    have q2:n+(newCap-(0+n))=newCap:=by omega
    rw[q1,<- Nat.add_mul,q2];show 0+newCap*esz<=newCap*esz;omega)
 rename_i b o' len cap loose;obtain⟨L,c,off,g1,g2,g3⟩:=h3.un_sl;obtain⟨hlo,h6⟩:=(qd (!loose) _).1 h6;obtain rfl:loose=false:=by simpa using hlo
 have hcc:c=cap:=by
  rcases g3 with⟨_,q1|⟨q1,_⟩⟩|⟨_,q1,q2⟩
  .exact q1
  .cases q1
  .exact q2.trans q1.symm
 obtain⟨h7,h6⟩:=(qd (Nat.ble (cap+1) (len+n)) _).1 h6;obtain⟨h8,h6⟩:=(qd (Nat.ble (len+n) qf) _).1 h6;obtain⟨h9,h6⟩:=(qd (Nat.ble ((len+n)*bytes) qf) _).1 h6;rw[qe7]at h7 h8 h9;have b0:cap<len+n:=by have:=of_decide_eq_true h7;omega
 have b1:len+n<=qf:=by simpa using h8
 have b2:(len+n)*bytes<=qf:=by simpa using h9
 obtain⟨ds,us,f1,hds,hul,e4⟩:=qha r g1 h6;rw[qaF,jX]at f1
 have hold:∀w',w'.heap=w.heap->(Builtin.firstCells esz len (.slice (some ⟨L.blk,off,none⟩) len c)).run P w' = .ok us.toArray w':=by
  intro w' hw;simp only[Builtin.firstCells];refine qdp hul (λj v hj=>?_)
  have hc:∀a,w'.cell? a=w.cell? a:=λa=>by simp[World.cell?,hw]
  rcases g3 with⟨rfl,_⟩|⟨g3,_,_⟩
  .rw[hc];exact e4 j v hj
  .subst g3;simp at hul;subst hul;simp at hj
 obtain⟨newCap,rest,w',e3,e5,e6,eio,e7⟩:=qhQ (rt:=o.type) (q':=q') (a0:=some ⟨L.blk,off,none⟩) (sLen:=len) (sCap:=c) (n:=n) h0' h1' hu hq hi hsz hzv (by rw[hvs];exact hsz) (old:=us.toArray) (hold w.drew rfl) (by omega) b1 (by rw[hby];exact b2);have hrep:=qme hv n v.cells (.inr rfl);rw[hzl]at hrep;have hnl:((Array.range (n*esz)).map (λi=>v.cells[i % v.cells.size]!)).toList.length=n*esz:=by simp
 have hsize:(us.toArray++(Array.range (n*esz)).map (λi=>v.cells[i % v.cells.size]!)++rest:Array Value).toList=(us++((Array.range (n*esz)).map (λi=>v.cells[i % v.cells.size]!)).toList)++rest.toList:=by simp
 obtain⟨Z',h',f3,f4,f5,f6⟩:=qeW (w1:=w') r (c:=us.toArray++(Array.range (n*esz)).map (λi=>v.cells[i % v.cells.size]!)++rest) (VRs.pre (hds.append hrep) hsize) f1 e6 (hio:=eio)
 refine⟨_,.slice (some ⟨w.heap.size,0,none⟩) (len+n) newCap,h',Z',w',f3,.inl ?_,?_,f4,f5⟩
 .simp only[execOp,ho,resolve,invoke,builtin];simp[g2,e1];rw[e7];rfl
 .exact VR.own _ _ newCap _ f6 (by omega) (by
   have q1:(us.toArray++(Array.range (n*esz)).map (λi=>v.cells[i % v.cells.size]!)++rest:Array Value).size=(len*esz+n*esz)+(newCap-(len+n))*esz:=by
    rw[Array.size_append,e5,hvs,hsz];simp[hul]
   have q2:len+n+(newCap-(len+n))=newCap:=by omega
   rw[q1,<- Nat.add_mul,<- Nat.add_mul,q2];show 0+newCap*esz<=newCap*esz;omega)

def qsG(hσ:qae σ)(r:Rel σ Z B h w){esz bytes:Nat}{consume:Bool}{s' x':Operand}{ts tx elem:TypeId}{args:Array TypeId}{b o' len cap:Nat}(h3:VR σ Z (.sl b o' len cap true) (a.eval s'))
  (h0':args[0]?=some ts) (h1':args[1]?=some tx) (hu:P.underlying ts=some (.slice elem)) (hx:P.underlying tx=some .string\/∃e,P.underlying tx=some (.slice e)) (hs:zb P elem esz=true) {i:TypeInfo} (hi:P.info? elem=some i) {z:Value} (hz:i.zero=some z) (hzs:z.cells.size=i.size) (hsz:i.size=esz) (hby:i.bytes=bytes)
  {n:Nat} {cs:List AV} {vs:List Value} (h7:VRs σ Z cs vs) (h8:vs.length=n*esz) (h9:∀w',w'.heap=w.heap->(Builtin.lenOf (a.eval x')).run P w' = .ok n w') (h10:∀m,m<=n->∀w',w'.heap=w.heap->(Builtin.firstCells esz m (a.eval x')).run P w' = .ok (vs.take (m*esz)).toArray w')
  (hexec:∀{r:Value} {w':World},(Builtin.append_ args o.type #[a.eval s',a.eval x']).run P w = .ok r w'->(execOp a.eval o).run P w = .ok (.value r) w')
  (h6:qw (len+n) (λneed=>qo (Nat.ble need qf) (qo (Nat.ble (Nat.mul need bytes) qf) (qo (and consume (Nat.beq cap len)) (qar h b (λe w a ys=>qo (qF cs) (qo w (qo a (qo (Nat.beq e esz) (qhO ys (λq=>qo (Nat.beq q (Nat.add o' (Nat.mul len esz))) (qc9 o' ys (λzs=>qlq zs cs (λcs' =>
    qdo h b .dead (λh1=>jz h1 (.cells esz true true cs') (λb' h'=>k (.own b' need) h')))))))))))))))):Res P σ Z B h w (execOp a.eval o) k:=by
 have hfull:∀w',w'.heap=w.heap->(Builtin.firstCells esz n (a.eval x')).run P w' = .ok vs.toArray w':=by
  grind
 have h6':=(Iff.of_eq (qD (len+n) _)).1 h6;clear h6;obtain⟨h11,h12⟩:=(qd _ _).1 h6';obtain⟨h13,h14⟩:=(qd _ _).1 h12;rw[qe7]at h11 h13;have b1:len+n<=qf:=(by simp_all);have b2:(len+n)*bytes<=qf:=(by simp_all);obtain⟨hcap,h15⟩:=(qd _ _).1 h14;simp only[zzB]at hcap;obtain rfl:cap=len:=Nat.eq_of_beq_eq_true hcap.2;obtain⟨e,wf,af,ys,hg,h16⟩:=(zk _ _ _).1 h15;obtain⟨hco,h17⟩:=(qd (qF cs) _).1 h16;obtain⟨hwf,h18⟩:=(qd wf _).1 h17;obtain⟨haf,h19⟩:=(qd af _).1 h18;obtain⟨hee,h20⟩:=(qd (Nat.beq e esz) _).1 h19;clear h14 h15 h16 h17 h18 h19;subst hwf haf;have hee:e=esz:=by simp_all
 subst hee;rw[wj]at h20;obtain⟨hm,h20⟩:=(qd _ _).1 h20;have hm:ys.length=o'+cap*e:=by simp_all
 obtain⟨hod,h20⟩:=(zL _ _ _).1 h20;rw[jX]at h20;obtain⟨hf,hnew⟩:=(qaC _ _ _ _).1 h20;obtain⟨r1,k1⟩:=r.weak hg hf .dead (.inl rfl);obtain⟨L,c,off,g1,g2,g3⟩:=h3.un_sl;have hnew':=(z7 _ _ _).1 hnew;obtain⟨hLe,cc,cty,cfz,f1,f2,f3,f4,f5⟩:=r.cells b L e true true ys g1 hg
 have hrow:∃us,VRs σ Z (ys.drop o') us/\us.length=cap*e/\(∀j v,us[j]?=some v->w.cell? ⟨L.blk,L.off+o'+j,none⟩=some v):=by
  obtain⟨ds,us,e1,e2,e3,e4⟩:=qha r g1 (off:=o') (n:=cap*e) (k:=λl=>l=ys.drop o') (by
   refine(zk _ _ _).2 ⟨_,_,_,_,hg,(zL _ _ _).2 ⟨hod,(zH _ _ _).2 ⟨by simp;omega,?_⟩⟩⟩
   rw[List.take_of_length_le (by simp;omega)])
  grind
 obtain⟨us,e2,e3,e4⟩:=hrow
 have anew:∀{a0:Option Addr} {c:Nat},a.eval s' = .slice a0 cap c->c<cap+n->
   (∀w',w'.heap=w.heap->(Builtin.firstCells e cap (.slice a0 cap c)).run P w' = .ok us.toArray w')->Res P σ Z B h w (execOp a.eval o) k:=by
  intro a0 c ev hlt hold;obtain⟨newCap,rest,w',q3,q4,q5,eio,q6⟩:=qdh (rt:=o.type) (a0:=a0) (sLen:=cap) (sCap:=c) h0' h1' hu hx hi hsz hz (h9 w rfl) (hfull w.drew rfl) (old:=us.toArray) (hold w.drew rfl) hlt b1 (by rw[hby];exact b2);have hsize:(us.toArray++vs.toArray++rest:Array Value).toList=(us++vs)++rest.toList:=by simp
  obtain⟨Z',h',q7,q8,q9,q10⟩:=qeW (w1:=w') r1 (c:=us.toArray++vs.toArray++rest) (VRs.pre (e2.append h7) hsize) hnew q5 (hio:=eio);refine⟨_,_,h',Z',w',q7,.inl (hexec (by rw[ev];exact q6)),?_,q8,k1.trans q9⟩
  exact VR.own _ _ newCap _ q10 (by omega) (by
   have p1:(us.toArray++vs.toArray++rest:Array Value).size=(cap*e+n*e)+(newCap-(cap+n))*e:=by
    rw[Array.size_append,q4,hzs,hsz];simp[h8,e3]
   have p2:cap+n+(newCap-(cap+n))=newCap:=by omega
   rw[p1,<- Nat.add_mul,<- Nat.add_mul,p2];simp_all)
 have hold:(off=L.off+o'\/cap=0)->∀w',w'.heap=w.heap->(Builtin.firstCells e cap (.slice (some ⟨L.blk,off,none⟩) cap c)).run P w' = .ok us.toArray w':=by
  intro ho w' hw;simp only[Builtin.firstCells];refine qdp e3 (λj v hj=>?_)
  have hc:∀a,w'.cell? a=w.cell? a:=λa=>by simp[World.cell?,hw]
  grind
 rcases g3 with⟨rfl,hc⟩|⟨hl0,hc0,hcr⟩
 .by_cases hlt:c<cap+n
  .simp_all
  .have hroom:L.off+o'+c*e<=L.size/\cap<=c:=by
    grind
   have hmul:(cap+n)*e<=c*e:=Nat.mul_le_mul_right _ (by omega);rw[Nat.add_mul]at hmul;have hcl:=h7.length;obtain⟨cc',hspl,hw⟩:=qdr vs (L.off+ys.length) w cc f1 (by rw[h8];omega);obtain⟨r2,k2⟩:=r.grow g1 hg hf o' hod cs vs h7 (by rw[hcl,h8];omega) .dead true (by simp_all) f1 hspl hw (qeA _ _ _ _)
   have hst:=run_storeCells_cells (P:=P) L.blk (L.off+ys.length) vs 0 w (λj hj=>by
     rw[qcx f1];grind) (λj hj=>by
     rw[qiw f1];simp only[decide_eq_false_iff_not];exact f5 (by simp) _ (by omega)) (qfE hσ h7 hco)
   refine⟨_,.slice (some ⟨L.blk,L.off+o',none⟩) (cap+n) c,_,_,w.setCells L.blk (L.off+ys.length) vs,hnew',.inl (hexec ?_),?_,r2,k2⟩
   .rw[g2];refine jn h0' h1' hu hx hs (h9 w rfl) (hfull w rfl) (by omega) (λa0 ha0=>?_) (by grind)
    cases ha0;rw[xV];have:L.off+o'+cap*e=L.off+ys.length:=by omega
    rw[this];omega
   .exact VR.own (σ:=σ) (Z:=Z.add h.sz ⟨L.blk,L.off+o',L.size,e⟩) h.sz (cap+n) c ⟨L.blk,L.off+o',L.size,e⟩ (Ren.add_self _ _ _) (by omega) hroom.1
 .obtain rfl:cap=0:=by omega
  obtain rfl:c=0:=by omega
  cases n with
  | succ n=>grind
  | zero =>
   have hvs:vs=[]:=by simp_all
   obtain⟨r2,k2⟩:=r1.idle (.cells e true true (ys.drop o'++cs));refine⟨_,.slice (some ⟨L.blk,off,none⟩) 0 0,_,_,w,hnew',.inl (hexec ?_),.own0 _ _ (Nat.lt_of_lt_of_le (by omega) (Nat.le_max_right _ _)),r2,k1.trans k2⟩;rw[g2];exact jn h0' h1' hu hx hs (h9 w rfl) (hfull w rfl) (zzL _) (λa1 ha1=>by subst hvs;rfl) (λ_=>rfl)

def qus(hσ:qae σ)(r:Rel σ Z B h w)(ht:TR σ Z t a.tmps){esz bytes:Nat}{consume:Bool}{s x:O}{s' x':Operand}{ts tx elem:TypeId}{args:Array TypeId}{ops:Array Operand}(ho:o.op = .call ⟨.builtin .append,ops,args⟩)(hops:ops.toList=[s',x'])
  (h0':args[0]?=some ts) (h1':args[1]?=some tx) (he:xr P ts=some elem) (hx:P.underlying tx=some .string\/∃e,P.underlying tx=some (.slice e)) (hs:zb P elem esz=true) (hb:qbA P elem bytes=true) {i:TypeInfo} (hi:P.info? elem=some i) {z:Value} (hz:i.zero=some z) (hzs:z.cells.size=i.size)
  (hc1:qE s' s=true) (hc2:qE x' x=true) (hk:opK orc (.app esz bytes consume s x) t h k):Res P σ Z B h w (execOp a.eval o) k:=by
 obtain rfl:ops = #[s',x']:=by grind
 obtain⟨i',hi',hsz⟩:=qkl hs;rw[hi]at hi';cases hi';obtain⟨i',hi',hby⟩:=qiq hb;rw[hi]at hi';cases hi';obtain⟨u,h2,h3⟩:=zd ht hc1 hk;obtain⟨v,h4,h5⟩:=zd ht hc2 h2;obtain⟨n,cs,vs,h6,h7,h8,h9,h10⟩:=qE1 (P:=P) r h5 h4;have hu:=zV he
 have hexec:∀{r:Value} {w':World},(Builtin.append_ args o.type #[a.eval s',a.eval x']).run P w = .ok r w'->(execOp a.eval o).run P w = .ok (.value r) w':=by
  intro r w' hr;simp[execOp,ho,resolve,invoke,builtin,hr]
 have hfull:∀w',w'.heap=w.heap->(Builtin.firstCells esz n (a.eval x')).run P w' = .ok vs.toArray w':=by
  grind
 -- where there is no room at all
 have fromNone:∀{a0:Option Addr},a.eval s' = .slice a0 0 0->qo (Nat.ble n qf) (qo (Nat.ble (n*bytes) qf) (jz h (.cells esz true true cs) (λb h'=>k (.own b n) h')))->Res P σ Z B h w (execOp a.eval o) k:=by
  intro a0 es h6;obtain⟨h11,h12⟩:=(qd _ _).1 h6;obtain⟨h13,h14⟩:=(qd _ _).1 h12;rw[qe7]at h11 h13;have g1:n<=qf:=of_decide_eq_true h11;have g2:n*bytes<=qf:=of_decide_eq_true h13;cases n with
  | zero =>
   have hvs:vs=[]:=by simp_all
   have hnew':=(z7 _ _ _).1 h14;obtain⟨r2,k2⟩:=r.idle (.cells esz true true cs);refine⟨_,.slice a0 0 0,_,_,w,hnew',.inl (hexec ?_),.own0 _ _ (Nat.lt_of_lt_of_le (Nat.lt_succ_self _) (Nat.le_max_right _ _)),r2,k2⟩;rw[es];exact jn h0' h1' hu hx hs (h9 w rfl) (hfull w rfl) (zzL _) (λa1 ha1=>by subst hvs;rfl) (λ_=>rfl)
  | succ n =>
   obtain⟨newCap,rest,w',g3,g4,g5,gio,g6⟩:=qdh (rt:=o.type) h0' h1' hu hx hi hsz hz (h9 w rfl) (hfull w.drew rfl) (old:=#[]) (a0:=a0) (sLen:=0) (sCap:=0) (qj2 _ _ _) (by omega) (by omega) (by rw[hby];simpa using g2);have hsize:(#[]++vs.toArray++rest:Array Value).toList=vs++rest.toList:=by simp
   obtain⟨Z',h',g7,g8,g9,g10⟩:=qeW (w1:=w') r (c:=#[]++vs.toArray++rest) (VRs.pre h7 hsize) h14 g5 (hio:=gio);refine⟨_,_,h',Z',w',g7,.inl (hexec (by rw[es];exact g6)),?_,g8,g9⟩
   have:=VR.own (σ:=σ) h.sz (n+1) newCap _ g10 (by omega) (by
    have e1:(#[]++vs.toArray++rest:Array Value).size=(n+1)*esz+(newCap-(0+(n+1)))*esz:=by
     rw[Array.size_append,g4,hzs,hsz];simp[h8]
    rw[e1];show 0+newCap*esz<=_;rw[<- Nat.add_mul,Nat.zero_add];apply Nat.le_of_eq;congr 1;omega)
   simp_all
 cases u<;>try exact h6.elim
 .grind[VR.un_nils]
 .rename_i b o' len cap loose;obtain⟨L,c,off,g1,g2,g3⟩:=h3.un_sl;cases loose with
  | true=>exact qsG hσ r h3 h0' h1' hu hx hs hi hz hzs hsz hby h7 h8 h9 h10 hexec h6
  | false =>
  have hcc:c=cap:=by
   grind
  have h6':(Bool.rec (motive:=λ_=>Prop)
    (qo (Nat.ble (len+n) qf) (qo (Nat.ble ((len+n)*bytes) qf)
     (qeV h b o' (len*esz) (λold=>qlq old cs (λcs=>jz h (.cells esz true true cs) (λb' h'=>k (.own b' (len+n)) h'))))))
    (Nat.rec (motive:=λ_=>Prop) (k (.sl b o' (len+n) cap false) h) (λ_ _=>qw (o'+len*esz) (λat_=>stK h b at_ cs (λh'=>k (.sl b o' (len+n) cap false) h'))) n)
    (Nat.ble (len+n) cap):Prop):=by
   simp_all
  clear h6;rw[qe8,qe7]at h6';rcases h6' with⟨hble,h6⟩|⟨hble,h6⟩
  .-- it does not fit
   have hgr:cap<len+n:=by simp_all
   obtain⟨h11,h12⟩:=(qd _ _).1 h6;obtain⟨h13,h14⟩:=(qd _ _).1 h12;rw[qe7]at h11 h13;have b1:len+n<=qf:=of_decide_eq_true h11;have b2:(len+n)*bytes<=qf:=of_decide_eq_true h13;obtain⟨ds,us,e1,hds,hul,e4⟩:=qha r g1 h14;rw[jX]at e1
   have hold:∀w',w'.heap=w.heap->(Builtin.firstCells esz len (.slice (some ⟨L.blk,off,none⟩) len c)).run P w' = .ok us.toArray w':=by
    intro w' hw;simp only[Builtin.firstCells];refine qdp hul (λj v hj=>?_)
    have hc:∀a,w'.cell? a=w.cell? a:=λa=>by simp[World.cell?,hw]
    grind
   obtain⟨newCap,rest,w',e3,e4,e5,eio,e6⟩:=qdh (rt:=o.type) (a0:=some ⟨L.blk,off,none⟩) (sLen:=len) (sCap:=c) h0' h1' hu hx hi hsz hz (h9 w rfl) (hfull w.drew rfl) (old:=us.toArray) (hold w.drew rfl) (by omega) b1 (by rw[hby];exact b2);have hsize:(us.toArray++vs.toArray++rest:Array Value).toList=(us++vs)++rest.toList:=by simp
   obtain⟨Z',h',e7,e8,e9,e10⟩:=qeW (w1:=w') r (c:=us.toArray++vs.toArray++rest) (VRs.pre (hds.append h7) hsize) e1 e5 (hio:=eio);refine⟨_,_,h',Z',w',e7,.inl (hexec (by rw[g2];exact e6)),?_,e8,e9⟩
   exact VR.own _ _ newCap _ e10 (by omega) (by
    have e1:(us.toArray++vs.toArray++rest:Array Value).size=(len*esz+n*esz)+(newCap-(len+n))*esz:=by
     rw[Array.size_append,e4,hzs,hsz];simp[h8,hul]
    have e2:len+n+(newCap-(len+n))=newCap:=by omega
    rw[e1,<- Nat.add_mul,<- Nat.add_mul,e2];simp_all)
  .-- it fits
   have hfit:len+n<=cap:=by simp_all
   cases n with
   | zero =>
    have h6':k (.sl b o' len cap false) h:=h6;refine Res.pure r h6' (v':=a.eval s') (hexec ?_) h3;rw[g2];have hvs:vs=[]:=by simpa using h8
    have:=jn (rt:=o.type) (a0:=some ⟨L.blk,off,none⟩) (sLen:=len) (sCap:=c) (w':=w) h0' h1' hu hx hs (h9 w rfl) (hfull w rfl) (by omega) (λa0 ha0=>by subst hvs;rfl) (λhh=>by cases hh)
    omega
   | succ n =>
    have hoff:off=L.off+o':=by rcases g3 with⟨g3,_⟩|⟨_,g3,_⟩<;>omega
    have h6':stK h b (o'+len*esz) cs (λh'=>k (.sl b o' (len+(n+1)) cap false) h'):=by
     simp_all
    obtain⟨h',w',e1,e2,e3,e4⟩:=qxD (P:=P) hσ r g1 h7 h6';refine⟨_,.slice (some ⟨L.blk,off,none⟩) (len+(n+1)) c,h',Z,w',e1,.inl (hexec ?_),?_,e2,e3⟩
    .rw[g2];refine jn h0' h1' hu hx hs (h9 w rfl) (hfull w rfl) (by omega) (λa0 ha0=>?_) (λhh=>by cases hh)
     grind[xV]
    .rw[hoff];exact .sl _ _ _ _ _ _ L g1 (.inl hcc)
 .-- a row that stays
  cases n with
  | zero =>
   have h6':k (.fz _ _) h:=h6;refine Res.pure r h6' (v':=a.eval s') (hexec ?_) h3;have hvs:vs=[]:=by simp_all
   rcases h3.un_fz with⟨k0,off,c,arr,e1,e2,_⟩|⟨rfl,_,a0,e1⟩
   .rw[e1];have:=jn (rt:=o.type) (a0:=some ⟨k0,off,none⟩) (sCap:=c) (w':=w) h0' h1' hu hx hs (h9 w rfl) (hfull w rfl) (by simpa using e2) (λa0 ha0=>by subst hvs;rfl) (λhh=>by cases hh)
    omega
   .rw[e1];exact jn h0' h1' hu hx hs (h9 w rfl) (hfull w rfl) (zzL _) (λa1 ha1=>by subst hvs;rfl) (λ_=>rfl)
  | succ n=>simp_all
 .grind[VR.un_e0]
 .-- a row of one's own
  rename_i b m
  have h6':qo (Nat.ble (m+n) qf) (qo (Nat.ble ((m+n)*bytes) qf) (qo consume (qar h b (λe w a ys=>qo (qF cs) (qo w (qo a (qo (Nat.beq e esz) (qhO ys (λq=>qo (Nat.beq q (m*esz)) (qlq ys cs (λcs' =>
    qdo h b .dead (λh1=>jz h1 (.cells esz true true cs') (λb' h'=>k (.own b' (m+n)) h'))))))))))))):=by
   simp_all
  clear h6;obtain⟨h11,h12⟩:=(qd _ _).1 h6';obtain⟨h13,h14⟩:=(qd _ _).1 h12;rw[qe7]at h11 h13;have b1:m+n<=qf:=of_decide_eq_true h11;have b2:(m+n)*bytes<=qf:=of_decide_eq_true h13;obtain⟨_,h15⟩:=(qd _ _).1 h14;obtain⟨e,wf,af,ys,hg,h16⟩:=(zk _ _ _).1 h15;obtain⟨hco,h17⟩:=(qd (qF cs) _).1 h16;obtain⟨hwf,h18⟩:=(qd wf _).1 h17;obtain⟨haf,h19⟩:=(qd af _).1 h18;obtain⟨hee,h20⟩:=(qd (Nat.beq e esz) _).1 h19;clear h14 h15 h16 h17 h18 h19;subst hwf haf;have hee:e=esz:=by simp_all
  subst hee;rw[wj]at h20;obtain⟨hm,h20⟩:=(qd _ _).1 h20;have hm:ys.length=m*e:=by simp_all
  rw[jX]at h20;obtain⟨hf,hnew⟩:=(qaC _ _ _ _).1 h20;obtain⟨r1,k1⟩:=r.weak hg hf .dead (.inl rfl)
  -- where the row is made anew
  have anew:∀{us:List Value} {a0:Option Addr} {c:Nat},a.eval s' = .slice a0 m c->c<m+n->VRs σ Z ys us->us.length=m*e->
    (∀w',w'.heap=w.heap->(Builtin.firstCells e m (.slice a0 m c)).run P w' = .ok us.toArray w')->Res P σ Z B h w (execOp a.eval o) k:=by
   intro us a0 c ev hlt hds hul hold;obtain⟨newCap,rest,w',e3,e4,e5,eio,e6⟩:=qdh (rt:=o.type) (a0:=a0) (sLen:=m) (sCap:=c) h0' h1' hu hx hi hsz hz (h9 w rfl) (hfull w.drew rfl) (old:=us.toArray) (hold w.drew rfl) hlt b1 (by rw[hby];exact b2);have hsize:(us.toArray++vs.toArray++rest:Array Value).toList=(us++vs)++rest.toList:=by simp
   obtain⟨Z',h',e7,e8,e9,e10⟩:=qeW (w1:=w') r1 (c:=us.toArray++vs.toArray++rest) (VRs.pre (hds.append h7) hsize) hnew e5 (hio:=eio);refine⟨_,_,h',Z',w',e7,.inl (hexec (by rw[ev];exact e6)),?_,e8,k1.trans e9⟩
   exact VR.own _ _ newCap _ e10 (by omega) (by
    have e1:(us.toArray++vs.toArray++rest:Array Value).size=(m*e+n*e)+(newCap-(m+n))*e:=by
     rw[Array.size_append,e4,hzs,hsz];simp[h8,hul]
    have e2:m+n+(newCap-(m+n))=newCap:=by omega
    rw[e1,<- Nat.add_mul,<- Nat.add_mul,e2];simp_all)
  rcases h3.un_own with⟨rfl,⟨a0,ev⟩,hbn⟩|⟨L,c,g1,g2,g3,ev⟩
  .-- nil
   have hys:ys=[]:=by grind
   subst hys;cases n with
   | zero =>
    have hvs:vs=[]:=by simp_all
    have hnew':=(z7 _ _ _).1 hnew;obtain⟨r2,k2⟩:=r1.idle (.cells e true true ([]++cs));refine⟨_,.slice a0 0 0,_,_,w,hnew',.inl (hexec ?_),.own0 _ _ (Nat.lt_of_lt_of_le (Nat.lt_succ_self _) (Nat.le_max_right _ _)),r2,k1.trans k2⟩;rw[ev];exact jn h0' h1' hu hx hs (h9 w rfl) (hfull w rfl) (zzL _) (λa1 ha1=>by subst hvs;rfl) (λ_=>rfl)
   | succ n=>exact anew (us:=[]) ev (by omega) .nil (by simp) (λw' _=>by simp_all[qj2])
  .obtain⟨hLe,cc,cty,cfz,f1,f2,f3,f4,f5⟩:=r.cells b L e true true ys g1 hg
   have hrow:∃us,VRs σ Z ys us/\us.length=m*e/\(∀j v,us[j]?=some v->w.cell? ⟨L.blk,L.off+0+j,none⟩=some v):=by
    obtain⟨ds,us,e1,e2,e3,e4⟩:=qha r g1 (off:=0) (n:=m*e) (k:=λl=>l=ys) (by
     refine(zk _ _ _).2 ⟨_,_,_,_,hg,(zL _ _ _).2 ⟨Nat.zero_le _,(zH _ _ _).2 ⟨by simp;omega,?_⟩⟩⟩
     rw[List.drop_zero,List.take_of_length_le (by omega)])
    grind
   obtain⟨us,e2,e3,e4⟩:=hrow
   by_cases hlt:c<m+n
   .refine anew ev hlt e2 e3 (λw' hw=>?_)
    simp only[Builtin.firstCells];refine qdp e3 (λj v hj=>?_)
    have hc:∀a,w'.cell? a=w.cell? a:=λa=>by simp[World.cell?,hw]
    rw[hc];grind
   .-- in place
    rw[hLe]at g3;have hmul:(m+n)*e<=c*e:=Nat.mul_le_mul_right _ (by omega);rw[Nat.add_mul]at hmul;have hcl:=h7.length;obtain⟨cc',hspl,hw⟩:=qdr vs (L.off+ys.length) w cc f1 (by rw[h8];omega);obtain⟨r2,k2⟩:=r.grow g1 hg hf 0 (Nat.zero_le _) cs vs h7 (by rw[hcl,h8];omega) .dead true (.inl ⟨rfl,rfl⟩) f1 hspl hw (qeA _ _ _ _)
    have hst:=run_storeCells_cells (P:=P) L.blk (L.off+ys.length) vs 0 w (λj hj=>by
      rw[qcx f1];grind) (λj hj=>by
      rw[qiw f1];simp only[decide_eq_false_iff_not];exact f5 (by simp) _ (by omega)) (qfE hσ h7 hco)
    have hnew':=(z7 _ _ _).1 hnew;refine⟨_,.slice (some ⟨L.blk,L.off,none⟩) (m+n) c,_,_,w.setCells L.blk (L.off+ys.length) vs,hnew',.inl (hexec ?_),?_,r2,k2⟩
    .rw[ev]
     grind[jn,xV]
    .have:=VR.own (σ:=σ) (Z:=Z.add h.sz ⟨L.blk,L.off+0,L.size,e⟩) h.sz (m+n) c ⟨L.blk,L.off+0,L.size,e⟩ (Ren.add_self _ _ _) (by omega) (by omega);exact this

def qu1(hσ:qae σ)(r:Rel σ Z B h w)(ht:TR σ Z t a.tmps){z:List AV}{x:O}{x':Operand}{td elem:TypeId}{args:Array TypeId}{ops:Array Operand}(ho:o.op = .call ⟨.builtin .clear,ops,args⟩)(hops:ops.toList=[x'])
  (h0:args[0]?=some td) (he:xr P td=some elem) (hz:qaf P elem z=true) (hc1:qE x' x=true) (hk:opK orc (.clear z x) t h k):Res P σ Z B h w (execOp a.eval o) k:=by
 obtain rfl:ops = #[x']:=by grind
 obtain⟨i,v,h1,h2,h3,h4⟩:=qdB hz;have hv:=qbX (σ:=σ) (Z:=Z) _ _ h3;obtain⟨u,h5,h6⟩:=zd ht hc1 hk;have hu:=zV he
 have hexec:∀{r:Value} {w':World},(Builtin.clear_ args o.type #[a.eval x']).run P w = .ok r w'->(execOp a.eval o).run P w = .ok (.value r) w':=by
  intro r w' hr;simp[execOp,ho,resolve,invoke,builtin,hr]
 cases u<;>try exact h5.elim
 .refine Res.pure r (v:=.tup []) h5 (v':=.tuple #[]) (hexec ?_) (.tup _ _ .nil);rw[h6.un_nils];simp[Builtin.clear_,h0,qy hu]
 .rename_i b o' len cap loose;obtain⟨L,c,off,g1,g2,g3⟩:=h6.un_sl;cases len with
  | zero =>
   have h5':k (.tup []) h:=h5;refine Res.pure r (v:=.tup []) h5' (v':=.tuple #[]) (hexec ?_) (.tup _ _ .nil);rw[g2];simp[Builtin.clear_,h0,qy hu]
  | succ n =>
   have hoff:off=L.off+o':=by rcases g3 with⟨g3,_⟩|⟨g3,_,_⟩<;>omega
   have h5':qjD z (n+1) (λcs=>stK h b o' cs (λh'=>k (.tup []) h')):=h5
   rw[qaF]at h5';have hrep:=qme hv (n+1) v.cells (.inr rfl);obtain⟨h',w',e1,e2,e3,e4⟩:=qxD (P:=P) hσ r g1 hrep h5';refine⟨.tup [],.tuple #[],h',Z,w',e1,.inl (hexec ?_),.tup _ _ .nil,e2,e3⟩;have hl:=hv.length;rw[g2,hoff]
   have e5:(Builtin.zeroCells v.cells (n+1)).toList=((Array.range ((n+1)*z.length)).map (λi=>v.cells[i % v.cells.size]!)).toList:=by
    simp only[Builtin.zeroCells];rw[show v.cells.size=z.length from by simp_all]
   rw[<- e5]at e4;simp[Builtin.clear_,h0,qy hu,qcN h1 h2,e4]

end ops

def Rel.newMap{B:Nat->Prop}{h:Hp}{w w':World}(r:Rel σ Z B h w){es0:List (AV×AV)}{o:Obj}(hes:qcu σ Z es0 o)(hw:w'.heap=w.heap.push o)(hio:w'.os=w.os/\w'.output=w.output) :
  Rel σ (Z.add h.sz ⟨w.heap.size,0,0,0⟩) B (h.push (.map es0)) w'/\Kept Z B h w (Z.add h.sz ⟨w.heap.size,0,0,0⟩) (h.push (.map es0)) w':=by
 have hold:∀k,k<w.heap.size->w'.heap[k]?=w.heap[k]?:=by intro k hk;rw[hw,Array.getElem?_push];rw[if_neg (by omega)]
 have hsz:w.heap.size<=w'.heap.size:=by rw[hw,Array.size_push];exact Nat.le_succ _
 have hnew:w'.heap[w.heap.size]?=some o:=by rw[hw];simp
 have hext:∀b L,Z b=some L->(Z.add h.sz ⟨w.heap.size,0,0,0⟩) b=some L:=by
  intro b L hb;have:=r.dom b L hb;simp only[Ren.add];rw[if_neg (by omega)];exact hb
 have hle:Z.le (Z.add h.sz ⟨w.heap.size,0,0,0⟩):=⟨hext,λ_ _ h=>h,Nat.le_max_left _ _⟩
 have hwf:=r.blk_lt
 have hget:∀b x,(h.push (.map es0)).tr.get b=some x->b≠h.sz->h.tr.get b=some x:=by
  intro b x hx hb;simp only[Hp.push,Tr.get_set]at hx;rwa [if_neg hb]at hx
 have hget':∀x,(h.push (.map es0)).tr.get h.sz=some x->x = .map es0:=by
  intro x hx;simp[Hp.push,Tr.get_set]at hx;exact hx.symm
 have hren:∀b L,(Z.add h.sz ⟨w.heap.size,0,0,0⟩) b=some L->(b=h.sz/\L=⟨w.heap.size,0,0,0⟩)\/(b≠h.sz/\Z b=some L):=by
  intro b L hb;simp only[Ren.add]at hb;split at hb
  .left;exact by grind
  .right;exact by grind
 refine⟨⟨?_,?_,?_,?_,?_,?_,?_,?_,?_,⟨Nat.max_le.2 ⟨Nat.le_succ_of_le r.dn.1,zzL _⟩,?_⟩⟩,⟨?_,?_,rfl,?_,?_,?_,hio,λ_ _ h=>h,λ_ _ h=>.inl h,Nat.le_max_left _ _⟩⟩
 .intro b L hb;rcases hren b L hb with⟨rfl,_⟩|⟨_,hb⟩
  .exact Nat.lt_succ_self _
  .exact Nat.lt_succ_of_lt (r.dom b L hb)
 .intro b L e' wf' af' cs' hb hg;rcases hren b L hb with⟨rfl,rfl⟩|⟨hne,hb⟩
  .cases hget' _ hg
  .have hg':=hget _ _ hg hne;obtain⟨h1,c',ty',fz,h2,h3,h4,h5,h6⟩:=r.cells b L e' wf' af' cs' hb hg';refine⟨h1,c',ty',fz,?_,h3,h4,?_,h6⟩
   .rw[hold _ (hwf b L hb _ hg' (by simp))];exact h2
   .intro j v hv;obtain⟨v',h7,h8⟩:=h5 j v hv;exact by grind[VR.mono]
 .intro b L es hb hg;rcases hren b L hb with⟨rfl,rfl⟩|⟨hne,hb⟩
  .cases hget' _ hg;exact by grind[qcu.mono]
  .have hg':=hget _ _ hg hne;obtain⟨h0,ob,h2,h3⟩:=r.maps b L es hb hg';refine⟨h0,ob,?_,h3.mono hle⟩;rw[hold _ (hwf b L hb _ hg' (by simp))];exact h2
 .intro b L e' af' cs' hb hg b' L' x hb' hx hd he;rcases hren b L hb with⟨rfl,rfl⟩|⟨hne,hb1⟩<;>rcases hren b' L' hb' with⟨rfl,rfl⟩|⟨hne',hb'⟩
  .rfl
  .have:=hwf b' L' hb' _ (hget _ _ hx hne') hd;simp only at he;omega
  .have:=hwf b L hb1 _ (hget _ _ hg hne) (by simp);simp only at he;omega
  .exact by grind[Rel.excl]
 .intro b L es hb hg b' L' x hb' hx hd he;rcases hren b L hb with⟨rfl,rfl⟩|⟨hne,hb1⟩<;>rcases hren b' L' hb' with⟨rfl,rfl⟩|⟨hne',hb'⟩
  .rfl
  .have:=hwf b' L' hb' _ (hget _ _ hx hne') hd;simp only at he;omega
  .have:=hwf b L hb1 _ (hget _ _ hg hne) (by simp);simp only at he;omega
  .exact by grind[Rel.exclm]
 .intro b L e' wf' cs' hb hg b' L' e2 wf2 af2 cs2 hb' hx he;rcases hren b L hb with⟨rfl,rfl⟩|⟨hne,hb1⟩<;>rcases hren b' L' hb' with⟨rfl,rfl⟩|⟨hne',hb'⟩
  .cases hget' _ hg
  .cases hget' _ hg
  .cases hget' _ hx
  .exact r.app b L e' wf' cs' hb1 (hget _ _ hg hne) b' L' e2 wf2 af2 cs2 hb' (hget _ _ hx hne') he
 .intro b L hb hf;rcases hren b L hb with⟨rfl,rfl⟩|⟨_,hb⟩
  .exact qaA r.base (zzL _)
  .exact r.flr b L hb hf
 .exact qfB r.base hsz
 .intro k arr hk;obtain⟨⟨ty',fz',h1⟩,h2⟩:=r.frz k arr hk;have hkl:k<w.heap.size:=by grind
  refine⟨⟨ty',fz',by rw[hold k hkl];exact h1⟩,λb L x hb hx hd=>?_⟩
  rcases hren b L hb with⟨rfl,rfl⟩|⟨hne,hb⟩
  .show w.heap.size≠k;omega
  .exact by grind
 .intro b L hb;rcases hren b L hb with⟨rfl,rfl⟩|⟨_,hb⟩
  .show w.heap.size<_;rw[hw,Array.size_push];exact Nat.lt_succ_self _
  .exact Nat.lt_of_lt_of_le (r.dn.2 b L hb) hsz
 .intro b hb;simp only[Ren.add];rw[if_neg (by omega)]
 .exact Nat.le_succ _
 .intro b _ hb;simp only[Hp.push,Tr.get_set];rw[if_neg (by omega)]
 all_goals grind[Rel.base]

def Rel.putMap{B:Nat->Prop}{h:Hp}{w w':World}(r:Rel σ Z B h w){b:Nat}{L:Loc}{es es':List (AV×AV)}(hb:Z b=some L)(hg:h.tr.get b=some (.map es))(hf:h.fl<=b)
  {o:Obj} (ho:w.heap[L.blk]?=some o) {o':Obj} (hes:qcu σ Z es' o') (hw:w'.heap=w.heap.setIfInBounds L.blk o') (hio:w'.os=w.os/\w'.output=w.output) :
  Rel σ Z B (h.put b (.map es')) w'/\Kept Z B h w Z (h.put b (.map es')) w':=by
 have hlt:L.blk<w.heap.size:=by grind
 have hold:∀k,k≠L.blk->w'.heap[k]?=w.heap[k]?:=by
  intro k hk;rw[hw,Array.getElem?_setIfInBounds];rw[if_neg (by omega)]
 have hnew:w'.heap[L.blk]?=some o':=by rw[hw,Array.getElem?_setIfInBounds];simp[hlt]
 have hget:∀b' x,(h.put b (.map es')).tr.get b'=some x->b'≠b->h.tr.get b'=some x:=by
  intro b' x hx hne;simp only[Hp.put,Tr.get_set]at hx;rwa [if_neg hne]at hx
 have hgb:∀x,(h.put b (.map es')).tr.get b=some x->x = .map es':=by
  intro x hx;simp[Hp.put,Tr.get_set]at hx;exact hx.symm
 have hother:∀b' L' x,Z b'=some L'->h.tr.get b'=some x->x≠.dead->b'≠b->L'.blk≠L.blk :=
  λb' L' x hb' hx hd hne he=>by grind[Rel.exclm]
 refine⟨⟨r.dom,?_,?_,?_,?_,?_,r.flr,?_,?_,⟨r.dn.1,λb L hb=>by rw[hw,Array.size_setIfInBounds];exact r.dn.2 b L hb⟩⟩,⟨λ_ _=>rfl,zzL _,rfl,?_,?_,?_,hio,λ_ _ h=>h,λ_ _ h=>.inl h,zzL _⟩⟩
 .intro b' L' e' wf' af' cs' hb' hg'
  by_cases hne:b'=b
  .subst hne;cases hgb _ hg'
  .have hg2:=hget _ _ hg' hne;obtain⟨h1,c,ty,fz,h2,h3⟩:=r.cells b' L' e' wf' af' cs' hb' hg2;exact by grind
 .intro b' L' es2 hb' hg'
  by_cases hne:b'=b
  .subst hne;rw[hb]at hb';cases hb';cases hgb _ hg';exact by grind[Rel.maps]
  .have hg2:=hget _ _ hg' hne;obtain⟨h1,ob,h2,h3⟩:=r.maps b' L' es2 hb' hg2;exact by grind
 .intro b1 L1 e1 af1 cs1 hb1 hg1 b2 L2 x hb2 hx hd he2
  by_cases m1:b1=b
  .subst m1;cases hgb _ hg1
  .have hg1':=hget _ _ hg1 m1
   by_cases m2:b2=b
   .subst m2;rw[hb]at hb2;cases hb2;exact by grind
   .exact r.excl b1 L1 e1 af1 cs1 hb1 hg1' b2 L2 x hb2 (hget _ _ hx m2) hd he2
 .intro b1 L1 es1 hb1 hg1 b2 L2 x hb2 hx hd he2
  by_cases m1:b1=b
  .subst m1;rw[hb]at hb1;cases hb1
   by_cases m2:b2=b1
   .exact m2
   .exact by grind
  .have hg1':=hget _ _ hg1 m1
   by_cases m2:b2=b
   .subst m2;rw[hb]at hb2;cases hb2;exact by grind
   .exact r.exclm b1 L1 es1 hb1 hg1' b2 L2 x hb2 (hget _ _ hx m2) hd he2
 .intro b1 L1 e1 wf1 cs1 hb1 hg1 b2 L2 e2 wf2 af2 cs2 hb2 hg2 he2
  by_cases m1:b1=b
  .subst m1;cases hgb _ hg1
  .by_cases m2:b2=b
   .subst m2;cases hgb _ hg2
   .exact r.app b1 L1 e1 wf1 cs1 hb1 (hget _ _ hg1 m1) b2 L2 e2 wf2 af2 cs2 hb2 (hget _ _ hg2 m2) he2
 .rw[hw,Array.size_setIfInBounds];exact r.base
 .intro k arr hk;obtain⟨⟨ty',fz',h6⟩,h7⟩:=r.frz k arr hk;have hne:L.blk≠k:=by grind
  refine⟨⟨ty',fz',by rw[hold k (by omega)];exact h6⟩,λb' L' x hb' hx hd=>?_⟩
  by_cases hbb:b'=b
  .subst hbb;rw[hb]at hb';cases hb';exact hne
  .exact by grind
 .intro b' hb' hs';simp only[Hp.put,Tr.get_set];rw[if_neg (by omega)]
 all_goals grind[Rel.flr]

theorem qbk.cons{e:AV×AV}{es:List (AV×AV)}{vs:List MapEntry}(h:qbk σ Z (e::es) vs):∃v us,vs=v::us/\VR σ Z e.1 v.key/\VR σ Z e.2 v.val/\qbk σ Z es us:=by
 cases vs with
 | nil=>cases h.1
 | cons v us =>
  obtain⟨v',h1,h2,h3⟩:=h.2 0 e rfl;simp at h1;subst h1;exact⟨v,us,rfl,h2,h3,by simpa using h.1,λj e' he=>by simpa using h.2 (j+1) e' (by simp_all)⟩
theorem qbk.mk{e:AV×AV}{es:List (AV×AV)}{v:MapEntry}{us:List MapEntry}(h1:VR σ Z e.1 v.key)(h2:VR σ Z e.2 v.val)(h:qbk σ Z es us):qbk σ Z (e::es) (v::us):=by
 refine⟨by simp[h.1],λj e' he=>?_⟩
 cases j with
 | zero=>simp_all
 | succ j=>simpa using h.2 j e' (by simp_all)
theorem qbk.nil:qbk σ Z [] []:=⟨rfl,λj e' he=>by grind⟩

def qcF:Option IntKind->TypeDesc
 | none=>.string
 | some q=>.int q
def qv9{orc:Orc}(horc:OrcOk P σ orc){kd:Option IntKind}{i:AV}{i':Value}{p:Prop}(hi:VR σ Z i i')(h:qkN orc kd i p):MapKept.IsKey (qcF kd) i'/\p:=by
 unfold qkN at h;split at h
 .have:=hi.un_s;subst this;cases kd
  .exact⟨trivial,h⟩
  .exact h.elim
 .have:=hi.un_i;subst this;cases kd
  .exact h.elim
  .obtain⟨h1,h2⟩:=(qd _ _).1 h;exact⟨(of_decide_eq_true h1).symm,h2⟩
 .rename_i j;cases kd
  .cases hl:orc.len j with
   | none=>simp only[hl]at h;exact h.elim
   | some r =>
    simp only[hl]at h;obtain⟨s,h1,_⟩:=horc.len j r hl;have:=hi.un_sym;rw[this,h1];exact⟨trivial,h⟩
  .exact h.elim
 simp_all
def qpy{orc:Orc}(horc:OrcOk P σ orc){kd:Option IntKind}{x y:AV}{x' y':Value}(hx:VR σ Z x x')(hy:VR σ Z y y')(hk:MapKept.IsKey (qcF kd) x'){k:Bool->Prop}(h:qeT orc x y k) :
  ∃b,k b/\Instr.sameNow (qcF kd) x' y'=some b:=by
 unfold qeT at h;split at h
 .rename_i c;have ey:=hy.un_s;subst ey;split at h
  .rename_i a;have ex:=hx.un_s;subst ex;rw[qM]at h;cases kd
   .refine⟨_,h,?_⟩;show some ((⟨a.toArray⟩:ByteArray)==⟨c.toArray⟩)=_;rw[qb8]
    congr 1
    rw[Bool.eq_iff_iff,MapKept.bytes_beq,beq_iff_eq];constructor
    .intro e;have:=congrArg (λb=>b.data.toList) e;simpa using this
    .intro e;rw[e]
   .exact hk.elim
  .rename_i j;cases hl:orc.len j with
   | none=>simp only[hl]at h;exact h.elim
   | some lv =>
   simp only[hl]at h;have h:qiH (orc.bin .eql (.sym j) (.s c)) (λv=>unB v k):=h
   cases hb:orc.bin .eql (.sym j) (.s c)with
   | none=>simp only[hb]at h;exact h.elim
   | some r =>
    simp only[hb]at h;obtain⟨r',h1,h2⟩:=horc.bin _ _ _ _ hb Z x' _ hx hy;have h':unB r k:=h;unfold unB at h';split at h'<;>try exact h'.elim
    rename_i b;cases kd
    .cases x'<;>try exact hk.elim
     rename_i s;have h3:=h2 P 0 (default:World);cases h1;refine⟨b,h',?_⟩;simp[binOp,Op.stringOp]at h3;show some (s==(⟨c.toArray⟩:ByteArray))=some b;rw[<- h3]
     congr 1
     rw[Bool.eq_iff_iff,MapKept.bytes_beq,beq_iff_eq];constructor
     .intro e;rw[e,ByteArray.toList_eq]
     .intro e;rw[ByteArray.toList_eq]at e;rw[<- e]
    .obtain⟨s,h3,_⟩:=horc.len j lv hl;rw[hx.un_sym,h3]at hk;exact hk.elim
  .exact h.elim
 .rename_i q n;have ey:=hy.un_i;subst ey;split at h<;>try exact h.elim
  rename_i q' m;have ex:=hx.un_i;subst ex;obtain⟨h1,h2⟩:=(qd _ _).1 h;have h1:=of_decide_eq_true h1;subst h1;rw[qM]at h2;cases kd
  .exact hk.elim
  .refine⟨_,h2,?_⟩;have hk':q'=_:=hk;subst hk';simp[qcF,Instr.sameNow,qgz]
 simp_all
def qru{orc:Orc}(horc:OrcOk P σ orc){kd:Option IntKind}{i:AV}{i':Value}(hi:VR σ Z i i')(hk:MapKept.IsKey (qcF kd) i') :
  ∀{es:List (AV×AV)} {vs:List MapEntry} (n:Nat),qbk σ Z es vs->∀{k:Option AV->Prop},qcA orc i es k->
   (k none/\Instr.findNow (qcF kd) i' vs n=some none)\/∃v m u,k (some v)/\VR σ Z v u/\Instr.findNow (qcF kd) i' vs n=some (some (m,u))
 | [],vs,n,he,k,h=>by
  have:vs=[]:=List.length_eq_zero_iff.1 he.1.symm;subst this;exact .inl ⟨h,rfl⟩
 | e::es,vs,n,he,k,h=>by
  obtain⟨v,us,rfl,h1,h2,h3⟩:=he.cons;have h':qeT orc i e.1 (λr=>Bool.rec (motive:=λ_=>Prop) (qcA orc i es k) (k (some e.2)) r):=h
  obtain⟨b,h4,h5⟩:=qpy horc hi h1 hk h';cases b with
  | true=>exact .inr ⟨e.2,n,v.val,h4,h2,by simp[Instr.findNow,h5]⟩
  | false =>
   rcases qru horc hi hk (n+1) h3 h4 with⟨h6,h7⟩|⟨x,m,u,h6,h7,h8⟩
   .exact .inl ⟨h6,by simp[Instr.findNow,h5,h7]⟩
   .exact .inr ⟨x,m,u,h6,h7,by simp[Instr.findNow,h5,h8]⟩
def qxU{orc:Orc}(horc:OrcOk P σ orc){kd:Option IntKind}{i x:AV}{i' x':Value}(hu:i≠.undef/\∀r,i≠.lp r)(hi:VR σ Z i i')(hx:VR σ Z x x')(hk:MapKept.IsKey (qcF kd) i') :
  ∀{es:List (AV×AV)} {vs:List MapEntry} (n:Nat),qbk σ Z es vs->∀{k:List (AV×AV)->Prop},qhn orc i x es k->
   (∃es',k es'/\(qqm es->qqm es')/\Instr.findNow (qcF kd) i' vs n=some none/\∀born,qbk σ Z es' (vs++[⟨i',x',born⟩])) \/
    ∃es' j e,k es'/\(qqm es->qqm es')/\vs[j]?=some e/\Instr.findNow (qcF kd) i' vs n=some (some (n+j,e.val))/\Instr.sameNow (qcF kd) i' e.key=some true/\qbk σ Z es' (vs.set j { e with key:=i',val:=x' })
 | [],vs,n,he,k,h=>by
  have:vs=[]:=List.length_eq_zero_iff.1 he.1.symm;subst this;exact .inl ⟨[(i,x)],h,(λ_ e he=>by grind),rfl,by grind[qbk.mk,qbk.nil]⟩
 | e::es,vs,n,he,k,h=>by
  obtain⟨v,us,rfl,h1,h2,h3⟩:=he.cons;have h':qeT orc i e.1 (λr=>Bool.rec (motive:=λ_=>Prop) (qhn orc i x es (λl=>k (e::l))) (k ((i,x)::es)) r):=h
  obtain⟨b,h4,h5⟩:=qpy horc hi h1 hk h';cases b with
  | true=>exact .inr ⟨(i,x)::es,0,v,h4,(λ_ e he=>by grind),rfl,by simp[Instr.findNow,h5],h5,by simp_all[qbk.mk]⟩
  | false =>
   rcases qxU horc hu hi hx hk (n+1) h3 h4 with⟨es',h6,_,h7,h8⟩|⟨es',j,e',h6,_,h7,h8,h9,h10⟩
   .exact .inl ⟨e::es',h6,(λhh e' he=>by cases he;exact hh _ rfl),by simp[Instr.findNow,h5,h7],by grind[qbk.mk]⟩
   .exact .inr ⟨e::es',j+1,e',h6,(λhh e' he=>by cases he;exact hh _ rfl),by simp_all,by simp[Instr.findNow,h5,h8];omega,h9,by simp_all[qbk.mk]⟩
def qt3{kd:Option IntKind}{a b:Value}(ha:MapKept.IsKey (qcF kd) a)(h:Instr.sameNow (qcF kd) a b=some true):∀n,Instr.sameBits n b a=true:=by
 intro n;cases kd
 .cases a<;>try exact ha.elim
  cases b<;>simp[qcF,Instr.sameNow]at h;rename_i s s';cases n<;>simp[Instr.sameBits,(MapKept.bytes_beq _ _).1 h,MapKept.bytes_beq]
 .cases a<;>try exact ha.elim
  cases b<;>simp[qcF,Instr.sameNow]at h;obtain⟨h1,h2⟩:=h;cases n<;>simp[Instr.sameBits,h1,h2]

theorem qlY{t k e:TypeId}(h:qkC P t=some (k,e)):P.underlying t=some (.map k e):=by
 unfold qkC at h;grind
theorem qn2{t:TypeId}{kd:Option IntKind}(h:qn1 P t kd=true):P.underlying t=some (qcF kd):=by
 unfold qn1 at h;split at h
 .assumption
 .obtain rfl:=of_decide_eq_true h;assumption
 grind
def qkn{t:TypeId}{kd:Option IntKind}(h:qit P t kd=true):∃k e,qkC P t=some (k,e)/\P.underlying t=some (.map k e)/\P.underlying k=some (qcF kd):=by
 unfold qit at h;grind[qlY,qn2]
def qqC{t:TypeId}{z:AV}(h:qrq P t z=true):∃i v,P.info? t=some i/\i.zero=some v/\VR σ Z z v:=by
 unfold qrq at h;grind[qow]
def VR.un_nilm{v:Value}(h:VR σ Z .nilm v):v = .map none:=by cases h;rfl
def qpK{h:Hp}{b:Nat}{k:List (AV×AV)->Prop}(hk:qka h b k):∃es,h.tr.get b=some (.map es)/\qqm es/\k es:=by
 obtain⟨x,h1,h2⟩:=(Tr.getK_iff _ _ _).1 hk;cases x with
 | cells=>simp_all
 | dead=>simp_all
 | map es=>exact⟨es,h1,qlP.1 h2⟩
section ops
variable {B:Nat->Prop} {h:Hp} {w:World} {a:Act} {t:Tr AV} {orc:Orc} {k:AV->Hp->Prop} {o:Oper}

def qww(r:Rel σ Z B h w){ty:TypeId}{rs:Option Operand}(ho:o.op = .makeMap ty rs)(hc:rs=none\/∃q n,rs=some (.const (.int q n))/\(qkC P ty).isSome=true)(hk:opK orc .mkM t h k):Res P σ Z B h w (execOp a.eval o) k:=by
 have h1:k (.map h.sz) (h.push (.map [])):=(z7 h (.map []) (λb h'=>k (.map b) h')).1 hk
 obtain⟨r1,k1⟩:=r.newMap (w':=w.alloc (.map #[] 0)) (es0:=[]) (.inl ⟨(by intro e he;cases he),#[],0,rfl,qbk.nil⟩) rfl ⟨rfl,rfl⟩;refine⟨.map h.sz,.map (some w.heap.size),_,_,w.alloc (.map #[] 0),h1,.inl ?_,.map _ _ (Ren.add_self _ _ _) rfl,r1,k1⟩;rcases hc with rfl|⟨q,n,rfl,hm⟩
 .have e:(Instr.makeMap ty none).run P w = .ok (.map (some w.heap.size)) (w.alloc (.map #[] 0)):=rfl;simp[execOp,ho,e]
 .obtain⟨⟨k',e'⟩,hm⟩:=Option.isSome_iff_exists.1 hm
  have e:(Instr.makeMap ty (some (.int q n))).run P w = .ok (.map (some w.heap.size)) (w.alloc (.map #[] 0)):=by
   simp[Instr.makeMap,qy (qlY hm),asInt];rfl
  simp[execOp,ho,Act.eval,e]

def qkB{ty key elem:TypeId}{kd:Option IntKind}(h4:P.underlying ty=some (.map key elem))(h5:P.underlying key=some (qcF kd)){x i:Value}{vs:Array MapEntry}(hx:(x = .map none/\vs = #[])\/(∃b clk,x = .map (some b)/\w.heap[b]?=some (.map vs clk)))
  (g5:MapKept.IsKey (qcF kd) i) {n:Nat} {u:Value} (hf:Instr.findNow (qcF kd) i vs.toList 0=some (some (n,u))) (ok:Bool):(Instr.lookup ty x i ok).run P w = .ok (if ok then .tuple #[u,.bool true]else u) w:=by
 rcases hx with⟨rfl,rfl⟩|⟨b,clk,rfl,e2⟩
 .simp[Instr.lookup,qy h4,MapKept.run_checkKey h5 g5,MapKept.run_findKey h5 hf]
 .simp[Instr.lookup,qy h4,MapKept.run_getObj_map e2,MapKept.run_checkKey h5 g5,MapKept.run_findKey h5 hf]
def qkA{ty key elem:TypeId}{kd:Option IntKind}(h4:P.underlying ty=some (.map key elem))(h5:P.underlying key=some (qcF kd)){x i:Value}{vs:Array MapEntry}(hx:(x = .map none/\vs = #[])\/(∃b clk,x = .map (some b)/\w.heap[b]?=some (.map vs clk)))
  (g5:MapKept.IsKey (qcF kd) i) (hf:Instr.findNow (qcF kd) i vs.toList 0=some none) {info:TypeInfo} {zv:Value} (h6:P.info? elem=some info) (h7:info.zero=some zv) (ok:Bool):(Instr.lookup ty x i ok).run P w = .ok (if ok then .tuple #[zv,.bool false]else zv) w:=by
 rcases hx with⟨rfl,rfl⟩|⟨b,clk,rfl,e2⟩
 .simp[Instr.lookup,qy h4,MapKept.run_checkKey h5 g5,MapKept.run_findKey h5 hf,qcN h6 h7]
 .simp[Instr.lookup,qy h4,MapKept.run_getObj_map e2,MapKept.run_checkKey h5 g5,MapKept.run_findKey h5 hf,qcN h6 h7]
def qwn(horc:OrcOk P σ orc)(r:Rel σ Z B h w)(ht:TR σ Z t a.tmps){kd:Option IntKind}{ok:Bool}{z:AV}{x i:O}{x' i':Operand}{ty:TypeId}(ho:o.op = .lookup ty x' i' ok)(hc1:qE x' x=true)(hc2:qE i' i=true)
  (h1:qit P ty kd=true) (h2:(match qkC P ty with|some (_,e)=>qrq P e z|none=>false)=true) (hk:opK orc (.lookM kd ok z x i) t h k):Res P σ Z B h w (execOp a.eval o) k:=by
 obtain⟨key,elem,h3,h4,h5⟩:=qkn h1;rw[h3]at h2;obtain⟨info,zv,h6,h7,h8⟩:=qqC (σ:=σ) (Z:=Z) h2;obtain⟨u,g1,g2⟩:=zd ht hc1 hk;obtain⟨iv,g3,g4⟩:=zd ht hc2 g1;obtain⟨g5,g6⟩:=qv9 horc g4 g3
 have fin:∀{vs:Array MapEntry} {m:Option AV},(a.eval x' = .map none/\vs = #[])\/(∃b clk,a.eval x' = .map (some b)/\w.heap[b]?=some (.map vs clk))->qhK ok z m (λv=>k v h)->
   ((m=none/\Instr.findNow (qcF kd) (a.eval i') vs.toList 0=some none)\/∃v n u,m=some v/\VR σ Z v u/\Instr.findNow (qcF kd) (a.eval i') vs.toList 0=some (some (n,u)))->Res P σ Z B h w (execOp a.eval o) k:=by
  intro vs m hx ha hf;rcases hf with⟨rfl,hf⟩|⟨v,n,u,rfl,hv,hf⟩
  .cases ok
   .refine Res.pure r (v:=z) ha (v':=zv) ?_ h8;simp[execOp,ho,qkA h4 h5 hx g5 hf h6 h7]
   .refine Res.pure r (v:=.tup [z,.b false]) ha (v':=.tuple #[zv,.bool false]) ?_ (.tup _ _ (.cons _ _ _ _ h8 (.cons _ _ _ _ (.b _) .nil)));simp[execOp,ho,qkA h4 h5 hx g5 hf h6 h7]
  .cases ok
   .refine Res.pure r (v:=v) ha (v':=u) ?_ hv;simp[execOp,ho,qkB h4 h5 hx g5 hf]
   .refine Res.pure r (v:=.tup [v,.b true]) ha (v':=.tuple #[u,.bool true]) ?_ (.tup _ _ (.cons _ _ _ _ hv (.cons _ _ _ _ (.b _) .nil)));simp[execOp,ho,qkB h4 h5 hx g5 hf]
 cases u<;>try exact g6.elim
 .exact fin (.inl ⟨g2.un_nilm,rfl⟩) g6 (.inl ⟨rfl,rfl⟩)
 .rename_i b;obtain⟨es,e1,e0,e2⟩:=qpK g6;obtain⟨L,e3,e4,e5⟩:=g2.un_map;obtain⟨e6,ob,e7,e9⟩:=r.maps b L es e3 e1;obtain⟨vs,clk,rfl,e8⟩:=e9.map e0;rcases qru horc g4 g5 0 e8 e2 with⟨f1,f2⟩|⟨v,m,u,f1,f2,f3⟩
  .grind
  .exact fin (.inr ⟨_,clk,e5,e7⟩) f1 (.inr ⟨v,m,u,rfl,f2,f3⟩)

def qsr(horc:OrcOk P σ orc)(r:Rel σ Z B h w)(ht:TR σ Z t a.tmps){kd:Option IntKind}{x i v:O}{x' i' v':Operand}{ty:TypeId}(ho:o.op = .mapUpdate ty x' i' v'\/o.op = .insert ty x' i' v')(hc1:qE x' x=true)(hc2:qE i' i=true)(hc3:qE v' v=true)
  (h1:qit P ty kd=true) (hk:opK orc (.updM kd x i v) t h k):Res P σ Z B h w (execOp a.eval o) k:=by
 obtain⟨key,elem,h3,h4,h5⟩:=qkn h1;obtain⟨u,g1,g2⟩:=zd ht hc1 hk;obtain⟨iv,g3,g4⟩:=zd ht hc2 g1;obtain⟨vv,g7,g8⟩:=zd ht hc3 g3;obtain⟨g5,g6⟩:=qv9 horc g4 g7;cases u<;>try exact g6.elim
 rename_i b;obtain⟨es,e1,e0,e2⟩:=qpK g6;obtain⟨L,e3,e4,e5⟩:=g2.un_map;obtain⟨e6,ob,e7,e9⟩:=r.maps b L es e3 e1;obtain⟨vs,clk,rfl,e8⟩:=e9.map e0
 have exec:∀{w':World},(Instr.mapUpdate ty (a.eval x') (a.eval i') (a.eval v')).run P w = .ok () w'->(execOp a.eval o).run P w = .ok .skip w':=by
  intro w' hr;rcases ho with ho|ho<;>simp[execOp,ho,hr]
 have hu:iv≠.undef/\∀r,iv≠.lp r:=⟨by rintro rfl;exact g7.elim,by rintro r rfl;exact g7.elim⟩
 rcases qxU horc hu g4 g8 g5 0 e8 e2 with⟨es',f1,f0,f2,f3⟩|⟨es',j,e,f1,f0,f2,f3,f4,f5⟩
 .obtain⟨f6,f7⟩:=(qaC _ _ _ _).1 f1;obtain⟨r1,k1⟩:=r.putMap (w':={ w with heap:=w.heap.setIfInBounds L.blk (.map (vs.push ⟨a.eval i',a.eval v',clk⟩) (clk+1)) }) e3 e1 f6 e7 (.inl ⟨f0 e0,_,_,rfl,by rw[Array.toList_push];simp_all⟩) rfl ⟨rfl,rfl⟩
  refine⟨.undef,undef,_,_,_,f7,.inr ⟨exec ?_,rfl⟩,.undef _,r1,k1⟩;simp[Instr.mapUpdate,qy h4,e5,MapKept.run_getObj_map e7,MapKept.run_checkKey h5 g5,MapKept.run_findKey h5 f2,MapKept.run_setObj_map _ e7]
 .obtain⟨f6,f7⟩:=(qaC _ _ _ _).1 f1
  have hm:(vs.modify j λe=>{ e with key:=a.eval i',val:=a.eval v' }).toList=vs.toList.set j { e with key:=a.eval i',val:=a.eval v' }:=by
   have hj:vs[j]?=some e:=by simpa using f2
   have hlt:j<vs.size:=by grind
   apply List.ext_getElem?
   grind
  obtain⟨r1,k1⟩:=r.putMap (w':={ w with heap:=w.heap.setIfInBounds L.blk (.map (vs.modify j λe=>{ e with key:=a.eval i',val:=a.eval v' }) clk) }) e3 e1 f6 e7 (.inl ⟨f0 e0,_,_,rfl,by rw[hm];exact f5⟩) rfl ⟨rfl,rfl⟩
  refine⟨.undef,undef,_,_,_,f7,.inr ⟨exec ?_,rfl⟩,.undef _,r1,k1⟩;have hj:vs[j]?=some e:=by simp_all
  have f3':Instr.findNow (qcF kd) (a.eval i') vs.toList 0=some (some (j,e.val)):=by simp_all
  simp[Instr.mapUpdate,qy h4,e5,MapKept.run_getObj_map e7,MapKept.run_checkKey h5 g5,MapKept.run_findKey h5 f3',hj,Instr.keyThatStays,qt3 g5 f4,MapKept.run_setObj_map _ e7]

def qDy(r:Rel σ Z B h w)(ht:TR σ Z t a.tmps){x y:O}{x' y':Operand}{args:Array TypeId}{ops:Array Operand}(ho:o.op = .call ⟨.builtin .min,ops,args⟩)(hops:ops.toList=[x',y'])(hc:qE x' x=true)(hc2:qE y' y=true)(hk:opK orc (.min x y) t h k):Res P σ Z B h w (execOp a.eval o) k:=by
 obtain⟨u,h1,h2⟩:=zd ht hc hk;obtain⟨v,h3,h4⟩:=zd ht hc2 h1;obtain rfl:ops = #[x',y']:=by grind
 obtain⟨q,n,h5,h6⟩:=qov h2 h3;obtain⟨q',m,h7,h8⟩:=qov h4 h6
 have hrun:(execOp a.eval o).run P w = .ok (.value (.int q (if m<n then m else n))) w:=by
  simp[execOp,ho,resolve,invoke,builtin,Builtin.min_,Builtin.min2,h5,h7]
 rw[qcZ]at h8
 by_cases hlt:m<n
 .simp only[hlt,decide_true]at h8;exact Res.pure r h8 (by rw[hrun,if_pos hlt]) (.i _ _)
 .simp only[hlt,decide_false]at h8;exact Res.pure r h8 (by rw[hrun,if_neg hlt]) (.i _ _)

end ops
section ops
variable {B:Nat->Prop} {h:Hp} {w:World} {a:Act} {t:Tr AV} {orc:Orc} {k:AV->Hp->Prop} {o:Oper}

def qa8{b:Nat}:∀{ps:List Nat} {p:Prop},xW t b ps p->p/\∀q ∈ ps,(∃b' o',t.get q=some (.ptr b' o')/\b'≠b)\/∃cs o',t.get q=some (.pf cs o')
 | [],p,h=>⟨h,(by intro q hq;cases hq)⟩
 | q::ps,p,h=>by
  have h':t.getK q (λy=>match y with | .ptr b' _=>qo (not (Nat.beq b' b)) (xW t b ps p) | .pf _ _=>xW t b ps p|_=>False):=h
  obtain⟨y,h1,h2⟩:=(Tr.getK_iff _ _ _).1 h';cases y<;>try exact h2.elim
  .rename_i b' o';obtain⟨h3,h4⟩:=(qd _ _).1 h2;obtain⟨h5,h6⟩:=qa8 h4;refine⟨h5,λq' hq=>?_⟩
   rcases List.mem_cons.1 hq with rfl|hq
   .refine .inl ⟨b',o',h1,?_⟩;rintro rfl;simp at h3
   .exact h6 q' hq
  .obtain⟨h5,h6⟩:=qa8 h2;refine⟨h5,λq' hq=>?_⟩
   rcases List.mem_cons.1 hq with rfl|hq
   .exact .inr ⟨_,_,h1⟩
   .exact h6 q' hq
def qp5{ps:List Nat}{s:AV}{p:Prop}(h:qbi t ps s p):p:=by
 cases s<;>first|exact h|exact h.elim|exact(qa8 h).1
def qoJ{esz bytes:Nat}{s x:O}{ps:List Nat}(hk:opK orc (.appD esz bytes s x ps) t h k):opK orc (.app esz bytes true s x) t h k:=by
 obtain⟨v,h1,h2⟩:=qA t s _ hk;obtain⟨u,h3,h4⟩:=qA t x _ h1;exact h2 (λs=>evK t x (λx=>qhL h esz bytes true s x k)) (h4 (λx=>qhL h esz bytes true v x k) (qp5 h3))
def qqw(horc:OrcOk P σ orc)(r:Rel σ Z B h w)(ht:TR σ Z t a.tmps){b:Builtin}{args:Array Operand}{argTypes:Array TypeId}{io:IOp}(ho:o.op = .call ⟨.builtin b,args,argTypes⟩)(hc:qdE P b argTypes args.toList io=true)(hk:opK orc io t h k):Res P σ Z B h w (execOp a.eval o) k:=by
 unfold qdE at hc;split at hc
 .rename_i y n hops;cases ha:argTypes[0]? with
  | none=>simp[ha]at hc
  | some ty =>
   simp only[ha,Option.bind_some]at hc;split at hc
   .rename_i m e he;exact qtq r ho hops ha he (by simpa using hc) hk
   .cases hc
 .rename_i x str y hops;simp only[zzB]at hc;cases ha:argTypes[0]? with
  | none=>simp[ha]at hc
  | some ty =>
   simp only[ha]at hc;exact qDl horc r ht ho hops ha hc.2 hc.1 hk
 .rename_i x y hops;simp only[zzB]at hc;cases ha:argTypes[0]? with
  | none=>simp[ha]at hc
  | some ty =>
   simp only[ha]at hc;exact qCq r ht ho hops ha hc.2 hc.1 hk
 .rename_i s x esz bytes consume s' x' hops;simp only[zzB]at hc;cases h0:argTypes[0]? with
  | none=>simp[h0]at hc
  | some ts =>
   cases h1:argTypes[1]? with
   | none=>simp[h0,h1]at hc
   | some tx =>
    simp only[h0,h1]at hc;obtain⟨⟨hc1,hc2⟩,hc3⟩:=hc;cases he:xr P ts with
    | none=>simp[he]at hc3
    | some e =>
     simp only[he,zzB]at hc3;obtain⟨⟨⟨hs,hb⟩,hz⟩,hx⟩:=hc3;split at hz<;>try (cases hz;done)
     rename_i i hi;split at hz<;>try (cases hz;done)
     rename_i z hzz
     have hx':P.underlying tx=some .string\/∃e,P.underlying tx=some (.slice e):=by
      rw[zzO]at hx;rcases hx with hx|hx
      .exact .inl (qet hx)
      .obtain⟨e,hx⟩:=Option.isSome_iff_exists.1 hx;exact .inr ⟨e,zV hx⟩
     exact qus horc.atoms r ht ho hops h0 h1 he hx' hs hb hi hzz (by simpa using hz) hc1 hc2 hk
 .rename_i s x esz bytes s' x' ps hops;simp only[zzB]at hc;cases h0:argTypes[0]? with
  | none=>simp[h0]at hc
  | some ts =>
   cases h1:argTypes[1]? with
   | none=>simp[h0,h1]at hc
   | some tx =>
    simp only[h0,h1]at hc;obtain⟨⟨hc1,hc2⟩,hc3⟩:=hc;cases he:xr P ts with
    | none=>simp[he]at hc3
    | some e =>
     simp only[he,zzB]at hc3;obtain⟨⟨⟨hs,hb⟩,hz⟩,hx⟩:=hc3;split at hz<;>try (cases hz;done)
     rename_i i hi;split at hz<;>try (cases hz;done)
     rename_i z hzz
     have hx':P.underlying tx=some .string\/∃e,P.underlying tx=some (.slice e):=by
      rw[zzO]at hx;rcases hx with hx|hx
      .exact .inl (qet hx)
      .obtain⟨e,hx⟩:=Option.isSome_iff_exists.1 hx;exact .inr ⟨e,zV hx⟩
     exact qus horc.atoms r ht ho hops h0 h1 he hx' hs hb hi hzz (by simpa using hz) hc1 hc2 (orc:=orc) (consume:=true) (qoJ hk)
 .rename_i s x esz bytes z s' x' hops;simp only[zzB]at hc;cases h0:argTypes[0]? with
  | none=>simp[h0]at hc
  | some ts =>
   cases h1:argTypes[1]? with
   | none=>simp[h0,h1]at hc
   | some tx =>
    simp only[h0,h1]at hc;obtain⟨⟨hc1,hc2⟩,hc3⟩:=hc;cases he:xr P ts with
    | none=>simp[he]at hc3
    | some e =>
     simp only[he,zzB]at hc3;obtain⟨⟨⟨hs,hb⟩,hz⟩,hx⟩:=hc3;exact qye r ht ho hops h0 h1 he hx hs hb hz hc1 hc2 hk
 .rename_i x y x' y' hops;simp only[zzB]at hc;exact qDu r ht ho hops hc.1 hc.2 hk
 .rename_i x y x' y' hops;simp only[zzB]at hc;exact qDy r ht ho hops hc.1 hc.2 hk
 .rename_i x z y hops;simp only[zzB]at hc;cases h0:argTypes[0]? with
  | none=>simp[h0]at hc
  | some td =>
   simp only[h0,Option.bind_some]at hc;obtain⟨hc1,hc3⟩:=hc;split at hc3<;>try (cases hc3;done)
   rename_i e he;exact qu1 horc.atoms r ht ho hops h0 he hc3 hc1 hk
 .cases hc

def qjL{n:Nat}{x v:O}{ps:List Nat}(hk:opK orc (.storeD n x v ps) t h k):opK orc (.store n x v) t h k:=by
 obtain⟨p,h1,h2⟩:=qA t x _ hk;cases p<;>try exact h1.elim
 exact h2 _ (qa8 h1).1
def qHF(horc:OrcOk P σ orc)(r:Rel σ Z B h w)(ht:TR σ Z t a.tmps){io:IOp}(hc:qiY P o.op io=true)(hk:opK orc io t h k):Res P σ Z B h w (execOp a.eval o) k:=by
 generalize ho:o.op=oo at hc;unfold qiY at hc;split at hc
 .exact qwx r ht (.inl ho) hc hk
 .exact qwx r ht (.inr ho) hc hk
 .simp only[zzB]at hc;exact qz9 r ht ho hc.1.1 hc.1.2 hc.2 hk
 .exact quk r ho hc hk
 .exact qCe horc.atoms r ht ho hc hk
 .simp only[zzB]at hc;exact quG horc.atoms r ht ho hc.1 hc.2 hk
 .simp only[zzB]at hc;obtain⟨hn,hc⟩:=hc;split at hc<;>try (cases hc;done)
  rename_i e he;simp only[zzB]at hc;obtain⟨⟨h1,h2⟩,h3⟩:=hc;split at h3<;>try (cases h3;done)
  rename_i j hj;obtain rfl:=eq_of_beq hn;exact qsL horc.atoms r ht ho he h1 (by simpa using h2) hj h3 hk
 .simp only[zzB,Bool.not_eq_true']at hc;exact qwk r ht ho hc.1.1 hc.1.2 hc.2 hk
 .simp only[zzB]at hc;exact qwm r ht ho hc.1.1 hc.1.2 hc.2 hk
 .simp only[zzB]at hc;exact qqd horc.atoms r ht ho hc.1.1 hc.1.2 hc.2 hk
 .simp only[zzB]at hc;exact qqd horc.atoms r ht ho hc.1.1 hc.1.2 hc.2 (qjL hk)
 .exact qtH r ht ho hc hk
 .simp only[zzB,decide_eq_true_eq]at hc;obtain⟨⟨⟨rfl,h1⟩,h2⟩,_⟩:=hc;exact qCc horc r ht ho h1 h2 hk
 .simp only[zzB,zzO,Bool.not_eq_true']at hc;exact qvj r ht (.inl ⟨rfl,hc.1.1⟩) ho hc.1.2 hc.2 hk
 .simp only[zzB,zzO]at hc;exact qvj r ht (.inr ⟨rfl,hc.1.1⟩) ho hc.1.2 hc.2 hk
 .simp only[zzB,Bool.not_eq_true']at hc;exact qvi r ht (.inl ⟨rfl,hc.1.1.1⟩) ho hc.1.1.2 hc.1.2 hc.2 hk
 .simp only[zzB]at hc;exact qvi r ht (.inr ⟨rfl,hc.1.1.1⟩) ho hc.1.1.2 hc.1.2 hc.2 hk
 .simp only[zzB,decide_eq_true_eq]at hc;obtain⟨rfl,h1⟩:=hc;exact qH2 r ht ho h1 hk
 .simp only[zzB]at hc;exact qu9 horc r ht ho hc.1.1 hc.1.2 hc.2 hk
 .simp only[zzB]at hc;obtain⟨h1,h2⟩:=hc;split at h2<;>try (cases h2;done)
  rename_i fs hfs;split at h2<;>try (cases h2;done)
  rename_i fd hfd;simp only[zzB,Bool.not_eq_true']at h2;exact qvs r ht ho h1 hfs hfd (eq_of_beq h2.1.1) h2.1.2 h2.2 hk
 .simp only[zzB]at hc;exact qCW r ht ho hc.1 hc.2 hk
 .simp only[zzB]at hc;obtain⟨⟨h1,h2⟩,h3⟩:=hc;split at h3<;>try (cases h3;done)
  rename_i n e he;simp only[zzB]at h3;obtain rfl:=eq_of_beq h3.1;exact qtd r ht ho h1 h2 he h3.2 hk
 .simp only[zzB]at hc;obtain⟨⟨h1,h2⟩,h3⟩:=hc;split at h3<;>try (cases h3;done)
  rename_i e he;exact qte r ht ho h1 h2 he h3 hk
 .simp only[zzB]at hc;obtain⟨⟨h1,h2⟩,h3⟩:=hc;split at h3<;>try (cases h3;done)
  rename_i n e he;simp only[zzB]at h3;obtain⟨⟨⟨h4,h5⟩,h6⟩,h7⟩:=h3;obtain rfl:=eq_of_beq h4;exact qzm r ht ho h1 h2 he h5 (eq_of_beq h6) h7 hk
 .simp only[zzB]at hc;exact qzn r ht ho hc.1.1 hc.1.2 hc.2 hk
 .simp only[zzB]at hc;obtain⟨⟨⟨⟨h1,h2⟩,h3⟩,h4⟩,h5⟩:=hc;split at h5<;>try (cases h5;done)
  rename_i e he;exact qAB r ht ho h1 h2 h3 h4 he h5 hk
 .simp only[zzB]at hc;obtain⟨⟨⟨⟨h1,h2⟩,h3⟩,h4⟩,h5⟩:=hc;split at h5<;>try (cases h5;done)
  rename_i n e he;simp only[zzB]at h5;obtain rfl:=eq_of_beq h5.1;exact qAA r ht ho h1 h2 h3 h4 he h5.2 hk
 .simp only[zzB]at hc;obtain⟨h1,h2⟩:=hc;obtain rfl:=eq_of_beq h2;exact qCO r ht ho h1 hk
 .simp only[zzB]at hc;obtain⟨⟨h1,h2⟩,h3⟩:=hc;obtain rfl:=eq_of_beq h1;exact qDz r ht ho h2 h3 hk
 .simp only[zzB]at hc;obtain⟨⟨h1,h2⟩,h3⟩:=hc;split at h3<;>try (cases h3;done)
  rename_i e he;simp only[zzB]at h3;exact qDB r ht ho h1 h2 he h3.1.2 h3.2 hk
 .exact qww r ho (.inl rfl) hk
 .exact qww r ho (.inr ⟨_,_,rfl,hc⟩) hk
 .simp only[zzB,beq_iff_eq]at hc;obtain⟨⟨⟨⟨h1,h2⟩,rfl⟩,h3⟩,h4⟩:=hc;exact qwn horc r ht ho h1 h2 h3 h4 hk
 .simp only[zzB]at hc;exact qsr horc r ht (.inl ho) hc.1.1.1 hc.1.1.2 hc.1.2 hc.2 hk
 .simp only[zzB]at hc;exact qsr horc r ht (.inr ho) hc.1.1.1 hc.1.1.2 hc.1.2 hc.2 hk
 .exact hk.elim
 .exact qqw horc r ht ho hc hk
 .cases hc
end ops
end Go.Kc
end
