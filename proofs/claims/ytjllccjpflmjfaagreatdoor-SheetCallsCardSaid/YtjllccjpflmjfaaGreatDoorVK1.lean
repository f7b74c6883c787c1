/- Part 1 of the proof. No condition. -/
import Derived.KernelRfl
import GoSem.Step
import Derived.Lib.ItoaNum
import Derived.Laws.IdiomCopy
import Derived.Laws.AppendOwn
import Derived.Laws.Append
import Derived.Calls
import Derived.ChangeKeysEq
import Derived.Laws.Sem
import Derived.Laws.Strings2
import Derived.Laws.StructEq
import Derived.Laws.BytesString
set_option maxHeartbeats 4000000
set_option maxRecDepth 1000000
set_option linter.defProp false
set_option linter.unusedSectionVars false
set_option linter.unusedSimpArgs false
set_option linter.unusedVariables false
set_option linter.unnecessarySimpa false
namespace Go.Kc
def Sa{p q A:Prop}(f:A)(k:q)(h:A->q->p:=by intro f k;simp +decide only[↓vS,vT,simprocAttr,f];exact k):p:=h f k
def Sb{p q A:Prop}(f:A)(k:q)(h:A->q->p:=by intro f k;simp only[↓vS,vT,simprocAttr,f];exact k):p:=h f k
def Aa{p:Prop}(h:p:=by first|kernel_rfl|(unfold Ck;kernel_rfl)):p:=h
def Ab{p q:Prop}(k:q)(h:q->p:=by intro k;simp +decide only[↓vS,vT,simprocAttr];exact k):p:=h k
def Ac{p:Prop}(h:p:=by omega):p:=h
def Ad{p:Prop}(h:p:=by simp_all):p:=h
def Ae{p q:Prop}(k:q)(h:q->p:=by intro k;simp only[↓vS,vT,simprocAttr];exact k):p:=h k
def Af{p:Prop}(h:p:=by decide):p:=h
def Ag{p:Prop}(h:p:=by
 obtain⟨e,t1,h1,g1,g2⟩:=ih _ _ _ _ hk;cases e with
 | normal=>exact⟨_,t1,h1,g1,λQ' hQ=>g2 (λe t h=>X.rec (motive:=λ_=>Prop) (Q' .normal t h) (λid'=>Bool.rec (motive:=λ_=>Prop) (Q' (.exit id') t h) (Q' .normal t h) (Nat.beq id' id)) (Q' .ret t h) e) hQ⟩
 | ret=>exact⟨_,t1,h1,g1,λQ' hQ=>g2 (λe t h=>X.rec (motive:=λ_=>Prop) (Q' .normal t h) (λid'=>Bool.rec (motive:=λ_=>Prop) (Q' (.exit id') t h) (Q' .normal t h) (Nat.beq id' id)) (Q' .ret t h) e) hQ⟩
 | exit id' =>
  have g1':(Bool.rec (motive:=λ_=>Prop) (Q (.exit id') t1 h1) (Q .normal t1 h1) (Nat.beq id' id):Prop):=g1
  cases hb:Nat.beq id' id with
  | true =>
   rw[hb]at g1';refine⟨_,t1,h1,g1',λQ' hQ=>g2 (λe t h=>X.rec (motive:=λ_=>Prop) (Q' .normal t h) (λid'=>Bool.rec (motive:=λ_=>Prop) (Q' (.exit id') t h) (Q' .normal t h) (Nat.beq id' id)) (Q' .ret t h) e) ?_⟩
   show(Bool.rec (motive:=λ_=>Prop) (Q' (.exit id') t1 h1) (Q' .normal t1 h1) (Nat.beq id' id):Prop)
   rw[hb];exact hQ
  | false =>
   rw[hb]at g1';refine⟨_,t1,h1,g1',λQ' hQ=>g2 (λe t h=>X.rec (motive:=λ_=>Prop) (Q' .normal t h) (λid'=>Bool.rec (motive:=λ_=>Prop) (Q' (.exit id') t h) (Q' .normal t h) (Nat.beq id' id)) (Q' .ret t h) e) ?_⟩
   show(Bool.rec (motive:=λ_=>Prop) (Q' (.exit id') t1 h1) (Q' .normal t1 h1) (Nat.beq id' id):Prop)
   rw[hb];exact hQ):p:=h
def Ah{p:Prop}(h:p:=by grind):p:=h
def Ai{p:Prop}(h:p:=by simp +contextual [qx]):p:=h
def Aj{p:Prop}(h:p:=by
 have key:∀(k':AV->Hp->Prop),qaW t' h' i.res (λvs=>k' (qao vs) h')->LeavesInM (Fr none) 0 P fn a.tmps (λe w'=>∃v v' h' Z',e = .returned v'/\k' v h'/\VR σ0 Z' v v'/\Rel σ0 Z' B h' w'/\Kept Z B h w Z' h' w') a.defers .returning w':=by
  intro k' hq';rw[hd,hdA];have hB:Rel σ0 Z' B h' w':=hr'.lessB λk hk=>.inl hk
  refine qje ?_ rs (λr hr=>hm.at' r hr) hm.nodup (λr hr hb=>absurd (r00.base r hb) (Nat.not_lt.2 (zzg hww (hm.new r hr)))) hB (hkk.kept r00.dn.1)
  intro w3 hr3 hk3;refine⟨by simp,.inr ⟨λhh=>(by cases hh),.func fd,c',fd,#[]++c',rfl,?_,λ_ _=>trivial,?_⟩⟩
  .show (callFunc fd (#[]++c')).run P w3=_;rw[hcod]
  .refine (qrv Z hquiet (#[]++c') w3).mono ?_;rintro e u' w4 ⟨rfl,rfl,rfl⟩;obtain⟨v,v',e1,e2,e3⟩:=qjn hr3 ht' hres hq';exact⟨v',e3,v,v',h',Z',rfl,e1,e2,hr3,hk3⟩
 cases hx with
 | exit id=>exact hq.elim
 | normal=>exact key k hq
 | ret=>exact key k hq):p:=h
def Ak{p:Prop}(h:p:=by simp[qh,qk,zz4]):p:=h
def Al{p q:Prop}(k:q)(h:q->p:=by intro k;refine qa.mk hc rfl ?_;exact k):p:=h k
def Am{p q:Prop}(k:q)(h:q->p:=by intro k;simp only[vI,simprocAttr];exact k):p:=h k
def An{p q:Prop}(k:q)(h:q->p:=by intro k;refine .keep _ _ _ (.keep _ _ _ (.keep _ _ _ (.fz _ _ _ _ (.cut 1 rfl (zzL _) ?_) .nil)));exact k):p:=h k
def Ao{p:Prop}(h:p:=by refine hby.pc ?_;simp +decide only[↓vS,vT,simprocAttr,fnO,g0];refine hr.pc ?_;simp only[Hp.up,Hp.down];refine Sa (zzA hl s0) ?_;intro _;refine⟨[0],?_⟩;simp[vw,qd,qp]):p:=h
def Ap{p:Prop}(h:p:=by
 have hget:∀{k o},w.heap[k]?=some o->w'.heap[k]?=some o:=λ{k o} hk=>by rw[hb.block k (Array.getElem?_eq_some_iff.1 hk).1];exact hk
 refine⟨r.dom,λb L e wf af cs h1 h2=>?_,λb L es h1 h2=>?_,r.excl,r.exclm,r.app,r.flr,λk hk=>zzh (r.base k hk) hb.size,λk arr hk=>?_,⟨r.dn.1,λb L h=>zzh (r.dn.2 b L h) hb.size⟩⟩
 .obtain⟨e1,c,ty,fz,e2,e3⟩:=r.cells b L e wf af cs h1 h2;exact⟨e1,c,ty,fz,hget e2,e3⟩
 .obtain⟨e1,o,e2,e3⟩:=r.maps b L es h1 h2;exact⟨e1,o,hget e2,e3⟩
 .obtain⟨⟨ty,fz,e1⟩,e2⟩:=r.frz k arr hk;exact⟨⟨ty,fz,hget e1⟩,e2⟩):p:=h
def Aq{p:Prop}(h:p:=by simp[execOp,ho,resolve,invoke,builtin,Builtin.len_,hr,qt hu,e',goInt]):p:=h
def Ar{p:Prop}(h:p:=by
 obtain⟨c,hcl,hcph⟩:=qpD hWW rs.length (λj _ hs=>I.lt j hs)
 have rc:=I.rels c hcl hcph;refine⟨λb L hb=>(x8 hb).1,?_,?_,?_,?_,?_,λb L hb hh=>absurd (x8 hb).1 (Nat.not_lt_of_le hh),λ_ h=>h,λk arr hk=>⟨(rc.frz k arr hk).1,λb L x _ hx=>by simp at hx⟩,⟨Nat.min_le_right _ _,λb L h=>I.wlt b L (x8 h).2⟩⟩
 .intro b L e wf af cs _ hx;simp at hx
 .intro b L es _ hx;simp at hx
 .intro b L e af cs _ hx;simp at hx
 .intro b L es _ hx;simp at hx
 .intro b L e wf cs _ hx;simp at hx):p:=h
def As{p:Prop}(h:p:=by simp[vL,vw,mkB,mkC,qr,qv qo,qf qo,qv ql,qf ql,qv qg,qf qg]):p:=h
def At{p q:Prop}(k:q)(h:q->p:=by intro k;simp only[vK,simprocAttr,mkB,mkC,qr,zzC,zzN,qf qo,qf ql,qf qg];exact k):p:=h k
def Au{p:Prop}(h:p:=by
 refine⟨fun k a hk=>?_⟩
 unfold tab at hk;split at hk
 ·subst k;cases hk;unfold Lib.TabIs World.var? at ht;rw[hg] at ht;simp only[Option.bind_some] at ht;split at ht
  ·rename_i cs ty fz hw;cases ht;exact⟨ty,fz,hw⟩
  ·cases ht
 ·cases hk):p:=h
def Av{p:Prop}(h:p:=by rcases this with rfl|rfl<;>simp[qhQ,rl]):p:=h
def Aw{p q:Prop}(k:q)(h:q->p:=by intro k;simp +decide only[↓vS,vT,simprocAttr,qr];refine p1.sc ?_;exact k):p:=h k
def Ax{p:Prop}(h:p:=by
 have:(args++Array.replicate (fn.ntmps-args.size) undef).getD j undef=v':=by
  rw[Array.getD_eq_getD_getElem?,Array.getElem?_append_left hn];rw[Array.getElem?_toList]at h4;rw[h4];rfl
 rw[this];exact h5):p:=h
def Ay{p:Prop}(h:p:=by grind[Tr.get_set]):p:=h
def Az{p:Prop}(h:p:=by
 have hq':(Bool.rec (motive:=λ_=>Prop) (Q (.exit i) t h) (Q .normal t h) (Nat.beq i id):Prop):=hq
 show(if i=id then _ else _)
 by_cases hi:i=id
 .subst hi;rw[Nat.beq_refl]at hq';rw[if_pos rfl];exact hq'
 .rw[if_neg hi];cases hb:Nat.beq i id with
  | true=>exact absurd (Nat.eq_of_beq_eq_true hb) hi
  | false=>rw[hb]at hq';exact hq'):p:=h
def A5{p:Prop}(h:p:=by rcases this with rfl|rfl|rfl|rfl|rfl|rfl|rfl|rfl|rfl|rfl|rfl<;>rfl):p:=h
def A6{p:Prop}(h:p:=by unfold lkA at hb;cases hb):p:=h
def A7{p:Prop}(h:p:=by unfold qch at hb;cases hb):p:=h
def A8{p:Prop}(h:p:=by
 show(if id2=id' then _ else _)
 have hq':(if id2=id' then Q .normal t1 h1 else Q (.exit id2) t1 h1):=hq
 by_cases he:id2=id'
 .rw[if_pos he]at hq' ⊢;exact⟨_,t1,h1,Z1,rs,.normal,hq',ht1,hs1,hd1,hm,r1,k1⟩
 .rw[if_neg he]at hq' ⊢;exact⟨_,t1,h1,Z1,rs,.exit id2,hq',ht1,hs1,hd1,hm,r1,k1⟩):p:=h
def A9{p:Prop}(h:p:=by simp only[xE,qbZ,qcg,qV,evA];rw[show(a==c)=decide (a=c)from by rw[Bool.eq_iff_iff];simp]):p:=h
def Ba{p:Prop}(h:p:=by obtain⟨e,t1,h1,g5,g6⟩:=ih _ _ _ _ g3;exact⟨e,t1,h1,g5,λQ' hQ=>g2 (λv=>unB v (λb=>Bool.rec (motive:=λ_=>Prop) (fr env ho lc n y Q' t h) (fr env ho lc n x Q' t h) b)) (g4 (λb=>Bool.rec (motive:=λ_=>Prop) (fr env ho lc n y Q' t h) (fr env ho lc n x Q' t h) b) (g6 _ hQ))⟩):p:=h
def Bb{p q:Prop}(k:q)(h:q->p:=by intro k;refine SC.mk hc (qj ?_);exact k):p:=h k
def Bc{p:Prop}(h:p:=by exact jw h0' h1' hu hx hs (h9 w rfl) (hfull w rfl) (zzL _) (λa1 ha1=>by subst hvs;rfl) (λ_=>rfl)):p:=h
def Bd{p:Prop}(h:p:=by
 have hg':=hget _ _ hg hne;obtain⟨h1,c',ty',fz,h2,h3,h4,h5,h6⟩:=r.cells b L e' wf' af' cs' hb hg';refine⟨h1,c',ty',fz,?_,h3,h4,?_,h6⟩
 .rw[hold _ (hwf b L hb _ hg' (by simp))];exact h2
 .intro j v hv;obtain⟨v',h7,h8⟩:=h5 j v hv;exact by grind[VR.mono]):p:=h
def Be{p:Prop}(h:p:=by obtain⟨e,t1,h1,g5,g6⟩:=ih _ _ _ _ g3;exact⟨e,t1,h1,g5,λQ' hQ=>g2 (λv=>unB v (λb=>Bool.rec (motive:=λ_=>Prop) (fv env ho n y Q' t h) (fv env ho n x Q' t h) b)) (g4 (λb=>Bool.rec (motive:=λ_=>Prop) (fv env ho n y Q' t h) (fv env ho n x Q' t h) b) (g6 _ hQ))⟩):p:=h
def Bf{p:Prop}(h:p:=by rw[hv x (by simp[qx])]):p:=h
def Bg{p q:Prop}(k:q)(h:q->p:=by intro k;refine qa.mk hc (by simp[qu,clo,qg]) ?_;exact k):p:=h k
def Bh{p:Prop}(h:p:=by
 refine .own 0 _ 4 true _ _ ?_ (λh0=>?_) (Frzs.self xe)
 .simp[qap,Hp.push,shb,H0,zz4,xt xe]
 .rw[List.eq_nil_of_length_eq_zero h0];rfl):p:=h
def Bi{p q:Prop}(k:q)(h:q->p:=by intro k;refine Upd.mkd hc (by simp[jq,bnd,mkB]) (by simp) ?_;exact k):p:=h k
def Bj{p:Prop}(h:p:=by
 obtain⟨l0,h0,m0,mR,q1,q2,q3,q4,q5,q6⟩:=jL (P:=P) hl hhi hm (zzL 0) h7' true w;have hz:l0=0/\h0=0/\mR=0:=by rcases q6 with⟨_,_,_⟩|⟨_,_⟩<;>omega
 obtain⟨rfl,rfl,rfl⟩:=hz;refine Res.pure r q1 (hcall e1 q2) ?_;exact .own0 _ _ hb):p:=h
def Bk{p:Prop}(h:p:=by
 refine Sa h ?_;refine hg.sc ?_;refine Sa (zzA h (zzA r1 (zzA r2 r3))) ?_
 simp_all[zz4]):p:=h
def Bl{p:Prop}(h:p:=by unfold lkA at hb;split at hb<;>first|(cases hb;done)|rfl):p:=h
def Bm{p:Prop}(h:p:=by exact Iff.rfl):p:=h
def Bn{p:Prop}(h:p:=by simp[zz4]):p:=h
def Bo{p:Prop}(h:p:=by exact⟨_,t1,h1,Z1,rs,.ret,hq,ht1,hs1,hd1,hm,r1,k1⟩):p:=h
def Bp{p:Prop}(h:p:=by
 induction n with
 | zero=>rfl
 | succ n ih=>rw[List.replicate_succ,List.replicate_succ,List.flatten_cons,ih];rfl):p:=h
def Bq{p:Prop}(h:p:=by rw[if_pos hpx]at hI;simp only[↓vS,vT,simprocAttr,hpx,vZ,hI]):p:=h
def Br{p:Prop}(h:p:=by rw[zz4,if_pos rfl]):p:=h
def Bt{p:Prop}(h:p:=by
 by_cases hji:j=i
 .subst hji;exact⟨λh=>absurd h hS,λh=>absurd h (Nat.lt_irrefl _)⟩
 .obtain⟨q,hq,hwq⟩:=hj;exact hW hnp j q hq hwq hji (λh=>by have:=(qlW h.2).1;rw[hwr]at this;cases this)):p:=h
def Bu{p q:Prop}(k:q)(h:q->p:=by intro k;refine qa.mk hc (by simp[qu,clo,zf]) ?_;exact k):p:=h k
def Bv{p:Prop}(h:p:=by
 rw[qan]at hg;obtain⟨b,q1,q2⟩:=hget b' x' hg;have:rl src h.sz b'=b:=by simp[rl,zzs,q1]
 rw[this];exact q2):p:=h
def Bw{p:Prop}(h:p:=by simp[vw,wI,wkB,wTr,wT,qfb,qkI,qz,ze,zU,zq,qd,qK,qbG,qb1,qaB,jj,xF,qpI,qpJ]):p:=h
def By{p:Prop}(h:p:=by rcases this with rfl|rfl<;>rfl):p:=h
def Bz{p:Prop}(h:p:=by
 refine h.sc ?_;cases hcn:qai n with
 | none =>
  simp +decide only[↓vS,vT,simprocAttr,qfl,zE];simp[vZ,qm,xf,hcn]
 | some x =>
  simp +decide only[↓vS,vT,simprocAttr,qfl,qdh];simp[vZ,qm,xf,hcn]):p:=h
def B1{p:Prop}(h:p:=by rw[xX (hn b L h)];exact h'):p:=h
def B3{p:Prop}(h:p:=by simp[clo]at hc):p:=h
def B4{p q:Prop}(k:q)(h:q->p:=by intro k;refine S.weak hw (qj ?_);exact k):p:=h k
def B5{p:Prop}(h:p:=by
 induction m using Nat.strongRecOn with
 | ind m ih =>
  intro a ha hi;exact qcz (step a hi (λt h=>SL P n x Q t h) λb hb hlt t' h' hw=>SL.weak hw (ih (μ b) (ha ▸ hlt) b rfl hb))):p:=h
def B6{p:Prop}(h:p:=by simp[vw,mkB,mkC,qr,qd,qo,ql,qg]):p:=h
def B7{p:Prop}(h:p:=by
 unfold ruR;refine List.Pairwise.filterMap _ ?_ (qgU h0 h6);intro c c' hlt x hx y hy;split at hx
 .split at hy
  .cases hx;cases hy;exact hlt
  .cases hy
 .cases hx):p:=h
def B8{p:Prop}(h:p:=by
 obtain⟨n,new,h3,_⟩:=qhR h esz u (λn new=>qn (Nat.ble n qe) (qn (Nat.ble (Nat.mul n bytes) qe) (x6 h (.cells esz true true new) (λb h'=>K (.own b n) h')))) h2
 grind[qc,zD]):p:=h
def B9{p:Prop}(h:p:=by refine⟨[0],?_⟩;simp[vw,qd,qp]):p:=h
def Ca{p:Prop}(h:p:=by subst n2;rw[hb]at hb2;cases hb2;exact absurd he2.symm (hother b1 L1 _ hb1 hg1' (by simp) n1)):p:=h
def Cb{p q:Prop}(k:q)(h:q->p:=by intro k;simp[IntKind.wrap,IntKind.bits,IntKind.signed];exact k):p:=h k
def Cc{p:Prop}(h:p:=by
 rw[quy]
 by_cases h:m % 2=0<;>simp only[h,decide_true,decide_false,if_true,if_false]<;>rfl):p:=h
def Cd{p:Prop}(h:p:=by refine .keep _ _ _ (.keep _ _ _ (.fz _ _ _ _ (.cut 1 rfl (zzL _) ?_) .nil));simp[vw,trP,rI]):p:=h
def Ce{p:Prop}(h:p:=by grind[Kept.pres,Rel.base]):p:=h
def Cf{p:Prop}(h:p:=by simp[execOp,ho,resolve,invoke,builtin,Builtin.cap_,hr,qt hu,e',goInt]):p:=h
def Cg{p:Prop}(h:p:=by simp[Kc.flat]at hc):p:=h
def Ch{p:Prop}(h:p:=by exact L3.b2 (qbA _ _ _ _ _) λ_ _ _=>L2.ret _ _):p:=h
def Ci{p:Prop}(h:p:=by
 rw[zzO]at hx;rcases hx with hx|hx
 .exact .inl (xZ hx)
 .obtain⟨e,hx⟩:=zzx.1 hx;exact .inr ⟨e,zo hx⟩):p:=h
def Cj{p:Prop}(h:p:=by simp at hg;subst hg;exact qij hG zF rfl hB _ _ qkS hG' hk'):p:=h
def Cl{p:Prop}(h:p:=by have hg':=hget _ _ hg hne;obtain⟨h0,ob,h2,h3⟩:=r.maps b L es hb hg';refine⟨h0,ob,?_,h3.mono hle⟩;rw[hold _ (hwf b L hb _ hg' (by simp))];exact h2):p:=h
def Cm{p:Prop}(h:p:=by subst this;rcases hy with⟨hy,_⟩|⟨hy,_⟩<;>cases hy):p:=h
def Cn{p:Prop}(h:p:=by exact⟨_,t1,h1,Z1,rs,.exit id,hq,ht1,hs1,hd1,hm,r1,k1⟩):p:=h
def Co{p:Prop}(h:p:=by simp only[if_neg hi];exact hk _ _ (.inr ⟨rfl,rfl⟩) hf):p:=h
def Cp{p:Prop}(h:p:=by
 by_cases hx:j<i/\exc rs[j] r=true
 .exact hx.1
 .exact (hWx hwr j _ hq (h2 _ hq) hji hx).1 h1):p:=h
def Cq{p q:Prop}(k:q)(h:q->p:=by
 intro k
 show(if b<at'.length then Z (gAt at' h.sz b)else none)=some L
 rw[if_pos (by rw[l.len];exact hbm)]
 exact k):p:=h k
def Cr{p:Prop}(h:p:=by exact⟨_,t1,h1,g1,λQ' hQ=>g2 (λe t h=>X.rec (motive:=λ_=>Prop) (fr env ho lc n (.loop x) Q' t h) (λid=>Q' (.exit id) t h) (Q' .ret t h) e) hQ⟩):p:=h
def Cs{p:Prop}(h:p:=by simp[vL,vw,qv qp,qf qp]):p:=h
def Ct{p:Prop}(h:p:=by simp[binOp,Op.stringOp,tl]):p:=h
def Cu{p:Prop}(h:p:=by rw[e1];simp[Builtin.lenOf]):p:=h
def Cv{p:Prop}(h:p:=by exact L2.br _ (L2.ret _ _) L2.no):p:=h
def Cw{p:Prop}(h:p:=by
 simp only[execOp,ho,Instr.sliceAt,Sem.run_bind,qt hu,Result.andThen_ok,Instr.slice,ev,g2,zM h2,Sem.run_pure]
 congr 3
 cases a0<;>grind):p:=h
def Cx{p:Prop}(h:p:=by refine .tup _ _ (.cons _ _ _ _ (.agg _ _ (.cons _ _ _ _ (.i _ _) (.cons _ _ _ _ .nilz (.cons _ _ _ _ (.i _ _) .nil)))) (.cons _ _ _ _ (.b _) .nil))):p:=h
def Cy{p:Prop}(h:p:=by
 have e1:=qcN (x:=x) (h.sub λn hn=>by simp[qgb,hn])
 have e2:=qdA (xs:=args) (h.sub λn hn=>by simp[qgb,hn])
 funext hh k;simp only[qcZ,e1,e2]):p:=h
def Cz{p:Prop}(h:p:=by exact⟨_,t1,h1,g1,λQ' hQ=>g2 (λe t h=>X.rec (motive:=λ_=>Prop) (fv env ho n (.loop x) Q' t h) (λid=>Q' (.exit id) t h) (Q' .ret t h) e) hQ⟩):p:=h
def C0{p:Prop}(h:p:=by grind[Rel.exclm]):p:=h
def C1{p:Prop}(h:p:=by rw[<- (zzS.1 hx).2,List.getElem_cons_drop]):p:=h
def C2{p:Prop}(h:p:=by
 refine hQ _ _ (Wk.mk _ _ [] ?_ ?_ ?_ rfl)
 .simp[vw,hR]
 .trivial
 .simp):p:=h
def C3{p:Prop}(h:p:=by simpa using hx):p:=h
def C4{p:Prop}(h:p:=by exact⟨_,t1,h1,g1,λQ' hQ=>g2 (λe t h=>X.rec (motive:=λ_=>Prop) (fr env ho lc n y Q' t h) (λid=>Q' (.exit id) t h) (Q' .ret t h) e) hQ⟩):p:=h
def C5{p:Prop}(h:p:=by
 rw[Below.heap_setCell,Below.heap_setCell,Below.heap_setCell]
 all_goals (show W1.heap.size≠w.heap.size;omega)):p:=h
def C6{p q:Prop}(k:q)(h:q->p:=by intro k;refine .keep _ _ _ (.keep _ _ _ (.fz _ _ _ _ .nilz (.fz _ _ _ _ (.cut 1 rfl (zzL _) ?_) .nil)));exact k):p:=h k
def C7{p:Prop}(h:p:=by refine⟨[0],?_⟩;simp[vw,qd,qp,e]):p:=h
def C8{p q:Prop}(k:q)(h:q->p:=by intro k;refine qa.mk hc (by simp[qu,clo,qcd]) ?_;exact k):p:=h k
def C9{p:Prop}(h:p:=by exact⟨_,t1,h1,g1,λQ' hQ=>g2 (λe t h=>X.rec (motive:=λ_=>Prop) (fv env ho n y Q' t h) (λid=>Q' (.exit id) t h) (Q' .ret t h) e) hQ⟩):p:=h
def Da{p:Prop}(h:p:=by rw[World.frozen?,hz];rfl):p:=h
def Db{p:Prop}(h:p:=by grind[List.drop_eq_getElem_cons]):p:=h
def Dc{p:Prop}(h:p:=by grind[Rel.excl]):p:=h
def Dd{p:Prop}(h:p:=by rcases hc with rfl|rfl|rfl|rfl<;>decide):p:=h
def De{p:Prop}(h:p:=by
 have e:=qdA (xs:=args) h;funext hh k;show ww t' args (λvs=>C (Nat.succ f) vs hh k)=ww t args (λvs=>C (Nat.succ f) vs hh k)
 rw[e]):p:=h
def Df{p:Prop}(h:p:=by first|kernel_rfl|decide):p:=h
def Dg{p q:Prop}(k:q)(h:q->p:=by intro k;rw[Nat.mul_add,Nat.mul_add,zzU,<- Nat.mul_assoc,Nat.mul_comm a 2];exact k):p:=h k
def Dh{p:Prop}(h:p:=by
 rw[e] at hi;cases hi
 repeat' first|exact trivial|rfl|apply And.intro):p:=h
def Di{p:Prop}(h:p:=by simp only[xE,xy,qc,qi7,qV,decide_true,true_and,evA];rw[show(n==m)=decide (n=m)from by rw[Bool.eq_iff_iff];simp]):p:=h
def Dj{p:Prop}(h:p:=by grind[VR.mono]):p:=h
def Dk{p:Prop}(h:p:=by exact⟨_,_,h,.i _ _,by simp[binOp,Op.intBits]⟩):p:=h
def Dl{p:Prop}(h:p:=by refine Sa (zzA h1 h2) ?_;simp[vZ]):p:=h
def Dm{p:Prop}(h:p:=by grind[qE]):p:=h
def Dn{p:Prop}(h:p:=by rw[World.cell?,hz];rfl):p:=h
def Do{p:Prop}(h:p:=by simp[binOp,Op.intCmp]):p:=h
def Dp{p:Prop}(h:p:=by have:=(zzS.1 hj).1;simp at this;exact this):p:=h
def Dq{p:Prop}(h:p:=by simp[zz4];exact⟨rfl,rfl,rfl⟩):p:=h
def Dr{p:Prop}(h:p:=by exact L1.b2 (qw t x) λx=>L1.b2 (qw t y) λy=>L2.b2 (qlF x) λq n=>L2.b2 (qlF y) λ_ m=>L2.br _ (L2.ret _ _) (L2.ret _ _)):p:=h
def Ds{p q:Prop}(k:q)(h:q->p:=by intro k;simp only[vK,simprocAttr,qf qp];exact k):p:=h k
def Dt{p:Prop}(h:p:=by simpa[clo]using hc):p:=h
def Du{p:Prop}(h:p:=by rcases this with rfl|rfl|rfl|rfl|rfl|rfl<;>rfl):p:=h
def Dv{p:Prop}(h:p:=by simp[World.cell?,hw]):p:=h
def Dw{p:Prop}(h:p:=by
 rcases hren b L hb with⟨rfl,_⟩|⟨_,hb⟩
 .exact Nat.lt_succ_self _
 .exact Nat.lt_succ_of_lt (r.dom b L hb)):p:=h
def Dx{p:Prop}(h:p:=by simp only[↓vS,vT,simprocAttr,h1,h2,h3,h4,hr1,hr2,hok,zzU,Nat.zero_mul];intro _;refine⟨[1],?_⟩;simp[vw,qd,hcl]):p:=h
def Dy{p:Prop}(h:p:=by exact L3.b2 (qbA _ _ _ _ _) λl h' m=>L1.b2 (zd _) λo'=>L1.b2 (zd _) λlen'=>L1.b2 (zd _) λcap'=>qxy _ _ _ _ _ _):p:=h
def Dz{p:Prop}(h:p:=by grind[Rel.frz]):p:=h
def D0{p:Prop}(h:p:=by simpa using this):p:=h
def D1{p:Prop}(h:p:=by rw[hb];simp):p:=h
def D2{p:Prop}(h:p:=by simpa using h7.append ((by simpa using h6:VRs σ Z vs (args.map a.eval).toList).append h8)):p:=h
def D3{p:Prop}(h:p:=by rcases hcd with h|h|h|h<;>omega):p:=h
def D4{p:Prop}(h:p:=by grind[qbw.mono]):p:=h
def D5{p:Prop}(h:p:=by
 induction zy generalizing vs with
 | nil=>cases hf;rfl
 | cons a zy ih=>cases hf<;>grind):p:=h
def D6{p:Prop}(h:p:=by obtain⟨vs,h3,h4⟩:=qnj t' h' res _ h1;exact⟨_,_,h3,λk' hk'=>back k' (h4 (λvs=>k' (qao vs) h') hk')⟩):p:=h
def D7{p:Prop}(h:p:=by
 induction zy generalizing vs with
 | nil=>cases h;rfl
 | cons a zy ih=>cases h<;>grind):p:=h
def D8{p:Prop}(h:p:=by rw[qf8];exact h):p:=h
def D9{p:Prop}(h:p:=by have h:=(zzB _ _ ▸ h:qb5 x=true/\qb5 y=true);exact⟨xB.of_no h.1,xB.of_no h.2⟩):p:=h
def Ea{p:Prop}(h:p:=by rw[zz4,if_pos rfl];rfl):p:=h
def Eb{p:Prop}(h:p:=by simpa using h1):p:=h
def Ec{p:Prop}(h:p:=by rcases g6 with⟨_,_,_⟩|⟨_,_⟩<;>omega):p:=h
def Ed{p:Prop}(h:p:=by exact⟨_,_,_,hk,λ_ h=>h⟩):p:=h
def Ee{p:Prop}(h:p:=by simp[qu,clo,ha,hc']):p:=h
def Ef{p:Prop}(h:p:=by rw[hio];rcases hload with rfl|⟨n,rfl⟩<;>rfl):p:=h
def Eg{p:Prop}(h:p:=by exact L2.b2 (qbb _ _) λb h'=>L2.ret _ _):p:=h
def Eh{p:Prop}(h:p:=by simp[ByteArray.size]):p:=h
def Ei{p:Prop}(h:p:=by rcases i4 with⟨_,_,_,_,_,_,_,q,_⟩|⟨_,_,q,_⟩<;>exact⟨_,q,by simp⟩):p:=h
def Ej{p:Prop}(h:p:=by simp[mkT,zz4]):p:=h
def Ek{p:Prop}(h:p:=by simp[qdg,hz]):p:=h
def El{p:Prop}(h:p:=by
 refine L1.b2 (qw t x) λg=>L1.b2 (qg7 t args) λvs=>?_
 cases g<;>first|exact L2.no|exact hi _ _ _):p:=h
def Em{p:Prop}(h:p:=by rw[qjs hm];exact h):p:=h
def En{p:Prop}(h:p:=by
 unfold lkA at hb;split at hb<;>first|(cases hb;done)|skip
 rw[qh8 cs' _ hb]):p:=h
def Eo{p:Prop}(h:p:=by refine .cons (.inr (.inr (.inr ⟨.inr (.inr (.inr rfl)),?_,?_,?_,?_⟩))) .nil<;>simp only<;>omega):p:=h
def Ep{p q:Prop}(k:q)(h:q->p:=by intro k;show(0*esz<=cs.length/\(c-0)*esz<=(cs.drop (0*esz)).length/\_)↔_;simp only[Nat.zero_mul,zzu,Nat.sub_zero,List.drop_zero,h3,true_and];exact k):p:=h k
def Eq{p:Prop}(h:p:=by rw[e];rfl):p:=h
def Er{p:Prop}(h:p:=by
 rw[<- hE];refine qoy (br:=br) (by simp[spT,mkT,zz4]) ?_ ?_ rfl
 all_goals grind[Tr.get_set]):p:=h
def Es{p q:Prop}(k:q)(h:q->p:=by intro k;show evK t x (λx=>_)↔_;exact k):p:=h k
def Et{p q:Prop}(k:q)(h:q->p:=by intro k;rw[Nat.mul_add,zzU,<- Nat.mul_assoc,Nat.mul_comm a 2];exact k):p:=h k
def Eu{p q:Prop}(k:q)(h:q->p:=by intro k;simp only[zr,zQ,qC];exact k):p:=h k
def Ew{p q:Prop}(k:q)(h:q->p:=by intro k;refine S.has _ ht (qj ?_);exact k):p:=h k
def Ex{p:Prop}(h:p:=by exact r.app b L e' wf' cs' hb1 (hget _ _ hg hne) b' L' e2 wf2 af2 cs2 hb' (hget _ _ hx hne') he):p:=h
def Ey{p:Prop}(h:p:=by simp only[xE,xy,qc,qde,qV,decide_true,true_and,evA];rw[<- decide_not];simp):p:=h
def Ez{p:Prop}(h:p:=by
 show(if k'=q then some arr else Z.frz k')=some a
 rw[if_neg (ho _ _ h1)];exact h1):p:=h
def E0{p:Prop}(h:p:=by
 simp only[kdS]at hb
 repeat' split at hb
 all_goals first|(cases hb;done)|exact hb):p:=h
def E1{p q:Prop}(k:q)(h:q->p:=by
 intro k
 change (if Region.wanted o1 (yielded #[o0,o1] A1.tmps)=true then o1.wpIn (Fr none) 0 P A1 w2 _ _ else _)
 rw[if_pos (qer hf1 _)]
 exact k):p:=h k
def E2{p q:Prop}(k:q)(h:q->p:=by intro k;simp +decide only[↓vS,vT,simprocAttr,hlt',hlt,h5,hel,cNd,hl,hw1,n1,n2,n3,n4,n5,m1,m2,m3,gbp',gb',gc0,hwl,zzU,hll,hp1,hll2,hp2];exact k):p:=h k
def E3{p:Prop}(h:p:=by simp[vw,qd,ha,hc']):p:=h
def E4{p:Prop}(h:p:=by simp[qu,clo]):p:=h
def E5{p:Prop}(h:p:=by simp[qu,clo,qz]):p:=h
def E6{p:Prop}(h:p:=by simp[jq,bnd,qK]):p:=h
def E7{p:Prop}(h:p:=by simp only[hlt,decide_false]at h8;exact Res.pure r h8 (by rw[hrun,if_neg hlt]) (.i _ _)):p:=h
def E8{p:Prop}(h:p:=by
 refine ih2 _ _ (Wk.mk _ _ [] ?_ ?_ ?_ rfl)
 .simp[vw];rfl
 .trivial
 .simp):p:=h
def E9{p:Prop}(h:p:=by simp only[hlt,decide_true]at h8;exact Res.pure r h8 (by rw[hrun,if_pos hlt]) (.i _ _)):p:=h
def Fa{p:Prop}(h:p:=by refine Sa (zzA hl (zzA sc hle)) ?_;intro _;refine⟨[0],?_⟩;simp[vw,qd,qp,e,hn,hb']):p:=h
def Fb{p:Prop}(h:p:=by rw[r1];simp):p:=h
def Fc{p:Prop}(h:p:=by rw[e]at hp;have hF:=(Kd.lab.inj (hpc.symm.trans hp)).1;exact⟨true,by rw[e,qH,hF]⟩):p:=h
def Fd{p:Prop}(h:p:=by simp only[↓vS,vT,simprocAttr,vZ]):p:=h
def Fe{p:Prop}(h:p:=by simp[vZ,vP,zz4]):p:=h
def Ff{p:Prop}(h:p:=by rw[hWz];exact (Below.heap_alloc W1.drew _ _ hW1s).trans hW1):p:=h
def Fg{p:Prop}(h:p:=by simp[clo]at h):p:=h
def Fh{p:Prop}(h:p:=by rw[<- l.len];exact hi):p:=h
def Fi{p:Prop}(h:p:=by rw[<- List.drop_drop,hd];rfl):p:=h
def Fj{p:Prop}(h:p:=by rename_i cx;exact qor (hv nt cx (by simpa[qP]using hc) hn ro hro Z B w a ht hsz r)):p:=h
def Fk{p:Prop}(h:p:=by exact h2.elim):p:=h
def Fl{p:Prop}(h:p:=by refine skip hs _ ?_;simp[qh,qk,zz4,gdL,hm,hs]):p:=h
def Fm{p:Prop}(h:p:=by rw[List.nil_append,Lib.strCells_eq] at hB3;exact Or.inr hB3):p:=h
def Fn{p:Prop}(h:p:=by simp[execOp,hoo,resolve,h8,Deferred.ofValue,invoke,q1]):p:=h
def Fo{p:Prop}(h:p:=by grind[CRs.vr]):p:=h
def Fp{p:Prop}(h:p:=by simp only[zzc,List.not_mem_nil,or_false]at hs;subst hs;rfl):p:=h
def Fq{p:Prop}(h:p:=by split<;>omega):p:=h
def Fs{p:Prop}(h:p:=by exact L2.ret _ _):p:=h
def Ft{p q:Prop}(k:q)(h:q->p:=by intro k;simp +decide only[↓vS,vT,simprocAttr,hlt,zz0];exact k):p:=h k
def Fu{p:Prop}(h:p:=by rw[hk]at hpure;simp[qbU]at hpure):p:=h
def Fv{p:Prop}(h:p:=by grind[qdw]):p:=h
def Fw{p:Prop}(h:p:=by simp_all[zz4]):p:=h
def Fx{p:Prop}(h:p:=by simp;exact .nil):p:=h
def Fy{p:Prop}(h:p:=by rw[hold _ (hother b' L' _ hb' hg2 (by simp) hne)];exact h7):p:=h
def F0{p:Prop}(h:p:=by simpa using h2):p:=h
def F1{p:Prop}(h:p:=by
 by_cases e:b=2
 .subst e;simp at hb
 .rw[if_neg e]at hb ⊢;exact hb):p:=h
def F2{p:Prop}(h:p:=by rw[qeN,hs];simp_all[wj,jv]):p:=h
def F3{p:Prop}(h:p:=by obtain⟨h,hy⟩:=hne h;exact⟨_,_,h,.i _ _,by simp[binOp,Op.intDiv,hy]⟩):p:=h
def F4{p:Prop}(h:p:=by rename_i e;rw[hio]at e;cases e;rw[hio];rfl):p:=h
def F5{p:Prop}(h:p:=by
 rcases qdT hk with hk|⟨hk,_⟩
 all_goals grind[Rel.frz]):p:=h
def F6{p:Prop}(h:p:=by simp only[↓vS,vT,simprocAttr,hp,hw2,hpl,hy,zzU,qbd,zza,hlt2];simp[vZ,hwf]):p:=h
def F7{p:Prop}(h:p:=by simp only[↓vS,vT,simprocAttr,if_true];intro _;refine⟨[1],?_⟩;simp[vw]):p:=h
def F8{p:Prop}(h:p:=by rw[hby];exact b2):p:=h
def F9{p:Prop}(h:p:=by simp[qfz]at hh):p:=h
def Ga{p:Prop}(h:p:=by simp[qdR]at hc):p:=h
def Gb{p:Prop}(h:p:=by simp[execOp,ho,resolve,invoke,builtin,hr]):p:=h
def Gc{p:Prop}(h:p:=by rw[Array.size_append,e4,hzs,hsz];simp[h8,hul]):p:=h
def Gd{p:Prop}(h:p:=by exact L1.b2 (qe5 h3 b _) λh4=>L2.ret _ _):p:=h
def Ge{p:Prop}(h:p:=by have e:=ne (c:=c) (by rw[hc];simp);rw[qi e,zz4,if_neg e];exact h.box c hc):p:=h
def Gf{p q:Prop}(k:q)(h:q->p:=by intro k;simp only[Builtin.firstCells];exact k):p:=h k
def Gg{p:Prop}(h:p:=by rw[List.mem_zipIdx_iff_getElem?,zzq hij];exact hri):p:=h
def Gh{p:Prop}(h:p:=by subst h h';exact .clo _ rfl):p:=h
def Gi{p:Prop}(h:p:=by simp[qe6]):p:=h
def Gj{p:Prop}(h:p:=by rw[r3];simp):p:=h
def Gk{p:Prop}(h:p:=by rw[r2];simp):p:=h
def Gl{p:Prop}(h:p:=by have e:=ne (c:=c) (by rw[hc];simp);rw[qi e,zz4,if_neg e];exact h.fr c hc):p:=h
def Gm{p:Prop}(h:p:=by refine Sa (zzA h1 (zzA h2 (zzA @Int.ofNat_lt h3))) ?_;simp[vZ,zc (qz _)]):p:=h
def Gn{p q:Prop}(k:q)(h:q->p:=by intro k;refine wpIn_seq (wpIn_region ?_);exact k):p:=h k
def Gp{p:Prop}(h:p:=by rw[List.eq_nil_of_length_eq_zero h0];rfl):p:=h
def Gq{p:Prop}(h:p:=by simp only[clo]at hh;simp only[rnv,h1 hh]):p:=h
def Gr{p:Prop}(h:p:=by simp only[clo]at hh;simp only[bnd,h1 hh]):p:=h
def Gs{p q:Prop}(k:q)(h:q->p:=by intro k;refine⟨[0,1,2],?_⟩;simp[vw,mkB,mkC,qr,qd,qo,ql,qg,jR,rl];exact k):p:=h k
def Gt{p:Prop}(h:p:=by rw[qy,zH,qtJ]at h';exact⟨_,_,h',.i _ _,by simp[binOp,Op.shift,hn]⟩):p:=h
def Gu{p:Prop}(h:p:=by simp[vw,wI,wkB,wTr,wT,qfb,qkI,qz,ze,zU,zq,qd,hex,qK,qbG,qb1,qaB,jj,xF]):p:=h
def Gv{p:Prop}(h:p:=by simp[results,Tryz.results16,go_sem,z0,z1,z2,nmD]):p:=h
def Gw{p q:Prop}(k:q)(h:q->p:=by intro k;simp only[↓vS,vT,simprocAttr,hlt,hb,he,hw];exact k):p:=h k
def Gx{p q:Prop}(k:q)(h:q->p:=by intro k;simp only[vI,simprocAttr,mkB,mkC,qr,zzC,zzN];exact k):p:=h k
def Gy{p:Prop}(h:p:=by exact hk.elim):p:=h
def Gz{p:Prop}(h:p:=by rw[hw,Array.size_setIfInBounds];exact r.dn.2 b L hb):p:=h
def G0{p:Prop}(h:p:=by simpa using h):p:=h
def G1{p:Prop}(h:p:=by exact h2.2 Z B w args r (by rw[hl];exact .cons _ _ _ _ (.nz _ _) hxs)):p:=h
def G3{p:Prop}(h:p:=by refine Sa h1 ?_;simp[vZ]):p:=h
def G4{p:Prop}(h:p:=by simp +decide only[↓vS,vT,simprocAttr,↓qen h32,hr,hp,hsh];simp[vZ]):p:=h
def G5{p q:Prop}(k:q)(h:q->p:=by
 intro k
 show qbY h esz x (λn new=>qn (Nat.ble n qe) (qn (Nat.ble (Nat.mul n bytes) qe) _))↔_
 simp only[qc,jx]
 exact k):p:=h k
def G6{p q:Prop}(k:q)(h:q->p:=by intro k;simp +decide only[↓vS,vT,simprocAttr,qr];refine h1a.sc ?_;exact k):p:=h k
def G7{p:Prop}(h:p:=by simp_all[qkP]):p:=h
def G8{p:Prop}(h:p:=by subst hj';refine Sb hlt ?_;intro _;refine⟨[0],?_⟩;simp[vw,qd,xe]):p:=h
def G9{p:Prop}(h:p:=by grind[qb3]):p:=h
def Ha{p:Prop}(h:p:=by rw[e];exact ho):p:=h
def Hb{p:Prop}(h:p:=by rw[Bool.eq_iff_iff];simp[UInt8.toNat_inj]):p:=h
def Hc{p:Prop}(h:p:=by simp[execOp,ho,Instr.index,h6,h10,asIntOf,qt (qdL h1),hlt,zM h2,hp]):p:=h
def Hd{p:Prop}(h:p:=by exact hk _ _ _ ((h.stpNew .no _ (by simp)).trans st) (hw.dropS rfl)):p:=h
def He{p:Prop}(h:p:=by exact⟨s,List.mem_append_right _ (List.mem_cons_of_mem _ hs),hq⟩):p:=h
def Hf{p:Prop}(h:p:=by obtain⟨q,h1,h2⟩:=hj;rw[hr]at h1;cases h1;rw[hwr]at h2;cases h2):p:=h
def Hg{p:Prop}(h:p:=by refine Sb hlt ?_;simp[vZ,hI]):p:=h
def Hh{p:Prop}(h:p:=by simp[qu,clo,qdE,qdF]):p:=h
def Hi{p:Prop}(h:p:=by exact r1'.app b L e wf cs hb hx b' L' e' wf' af' cs' hb' hx' he):p:=h
def Hj{p:Prop}(h:p:=by unfold qg2 at h;split at h<;>simp_all):p:=h
def Hk{p:Prop}(h:p:=by rw[List.mem_zipIdx_iff_getElem?];exact hq):p:=h
def Hl{p:Prop}(h:p:=by simp only[↓vS,vT,simprocAttr,hp,hw2,hpl,g0,hlt2];simp[vZ,hwf]):p:=h
def Hm{p:Prop}(h:p:=by simp[e]):p:=h
def Hn{p:Prop}(h:p:=by rw[hWz];exact heap_alloc_new W1.drew _):p:=h
def Ho{p:Prop}(h:p:=by rcases h16 with⟨_,_,_⟩|⟨_,_⟩<;>omega):p:=h
def Hq{p:Prop}(h:p:=by rw[hcb];rfl):p:=h
def Hr{p:Prop}(h:p:=by rw[h]):p:=h
def Hs{p:Prop}(h:p:=by simp at hg;subst hg;exact qnE hE (zn x) rfl hB _ _ qkS hE' hk'):p:=h
def Ht{p q:Prop}(k:q)(h:q->p:=by intro k;refine p2.sc ?_;refine Sa w1 ?_;refine hi.sc ?_;simp +decide only[↓vS,vT,simprocAttr,b1,b2,zze];exact k):p:=h k
def Hu{p:Prop}(h:p:=by exact L2.wh _ (L2.wh _ (L2.b2 (qbb _ _) λb h'=>L2.ret _ _))):p:=h
def Hv{p:Prop}(h:p:=by simp only[clo]at h;simp only[shv,xt h]):p:=h
def Hw{p:Prop}(h:p:=by simp only[Bool.and_eq_true,decide_eq_true_eq] at h';exact h'):p:=h
def Hx{p:Prop}(h:p:=by simp[vw,mkB,mkC,qr,qd,qo,ql,qg,rR]):p:=h
def Hy{p q:Prop}(k:q)(h:q->p:=by intro k;simp +decide only[↓vS,vT,simprocAttr,h4,hb,n4,nb,n4b,nb6,ns6,nb1,n41,ns2,hr1,hr2,hlp,hap,zzU];exact k):p:=h k
def Hz{p q:Prop}(k:q)(h:q->p:=by intro k;simp +decide only[↓vS,vT,simprocAttr,qbF,qgP,List.filter_nil,List.length_nil];refine h2.sc ?_;exact k):p:=h k
def H1{p:Prop}(h:p:=by rw[hw,zzw];simp[hlt]):p:=h
def H2{p:Prop}(h:p:=by exact⟨_,_,_,h1,λQ' hQ=>h2 (λt h=>Q' .normal t h) hQ⟩):p:=h
def H3{p:Prop}(h:p:=by simp at hg;subst hg;exact qgl hL zF rfl hB _ _ qkS hL' hk'):p:=h
def H4{p:Prop}(h:p:=by rw[st2.lab _ _ _ qH];simp[gdE,hs,hm]):p:=h
def H5{p:Prop}(h:p:=by simp[execOp,hoo,resolve,Act.eval,Deferred.ofValue,invoke]):p:=h
def H6{p:Prop}(h:p:=by rcases this with rfl|rfl|rfl|rfl|rfl|rfl<;>decide +kernel):p:=h
def H7{p:Prop}(h:p:=by simp[zz4,n6,h6,nb6,Ne.symm nb6,n61,ns4]):p:=h
def H8{p:Prop}(h:p:=by grind[Rel.flr]):p:=h
def H9{p:Prop}(h:p:=by exact⟨_,t1,h1,Z1,rs,.normal,hq,ht1,hs1,hd1,hm,r1,k1⟩):p:=h
def Ia{p:Prop}(h:p:=by obtain⟨fn,h1,h2,h3⟩:=hc;rw[qaD h1 h2 h3]at h;cases h):p:=h
def Ib{p:Prop}(h:p:=by simp[qu,clo,qfJ]):p:=h
def Ic{p:Prop}(h:p:=by rw[qi hbLc];exact(sv.fr bL hL0').1):p:=h
def Id{p:Prop}(h:p:=by
 split at hb
 .cases hb
 split at hb<;>cases hb):p:=h
def Ie{p:Prop}(h:p:=by rw[hwa,World.cell?,heap_alloc_new];rfl):p:=h
def If{p:Prop}(h:p:=by exact(List.cons.inj this).1.symm):p:=h
def Ig{p:Prop}(h:p:=by rw[qan];rfl):p:=h
def Ih{p q:Prop}(k:q)(h:q->p:=by intro k;simp only[↓vS,vT,simprocAttr,Int.reduceLT,Int.reduceAdd,qE,Int.reduceLE,Int.reduceNeg,h2];exact k):p:=h k
def Ii{p q:Prop}(k:q)(h:q->p:=by intro k;simp only[↓vS,vT,simprocAttr,Int.reduceLT,Int.reduceAdd,qE,Int.reduceLE,Int.reduceNeg,h1];exact k):p:=h k
def zza:=@Option.map_some.{0,0}
def zzb:=@decide_eq_true_eq
def zzc:=@List.mem_cons.{0}
def zzd:=@List.mem_append.{0}
def zze:=@List.length_cons.{0}
def zzf:=@List.drop_eq_getElem_cons.{0}
def zzg:=@Nat.le_trans
def zzh:=@Nat.lt_of_lt_of_le
def zzi:=@List.append_assoc.{0}
def zzj:=@List.getElem?_append_left.{0}
def zzk:=@List.drop_eq_nil_of_le.{0}
def zzl:=@List.mem_map.{0,0}
def zzm:=@List.length_take.{0}
def zzn:=@List.getElem?_cons_zero.{0}
def zzo:=@List.getElem?_map.{0,0}
def zzp:=@List.getElem?_drop.{0}
def zzq:=@List.getElem?_take_of_lt.{0}
def zzr:=@List.getElem?_append_right.{0}
def zzs:=@List.getD_eq_getElem?_getD.{0}
def zzt:=@List.take_of_length_le.{0}
def zzu:=@Nat.zero_le
def zzv:=@List.flatMap_cons.{0,0}
def zzw:=@Array.getElem?_setIfInBounds.{0}
def zzx:=@Option.isSome_iff_exists.{0}
def zzy:=@List.all_eq_true.{0}
def zzz:=@List.length_map.{0,0}
def zz0:=@List.take_length.{0}
def zz1:=@List.mem_singleton.{0}
def zz2:=@List.take_add_one.{0}
def zz3:=@List.map_cons.{0,0}
noncomputable section
section
theorem zzA{a b:Prop}(x:a)(y:b):a∧b:=⟨x,y⟩
theorem zzB(a b:Bool):((a&&b)=true)=(a=true∧b=true):=by first|exact Bool.and_eq_true _ _|exact Bool.and_eq_true _|exact Bool.and_eq_true
theorem zzO(a b:Bool):((a||b)=true)=(a=true∨b=true):=by first|exact Bool.or_eq_true _ _|exact Bool.or_eq_true _|exact Bool.or_eq_true
theorem zzL(n:Nat):n≤n:=by first|exact Nat.le_refl _ _|exact Nat.le_refl _|exact Nat.le_refl
theorem zzC{α:Type _}{a:α}{l m:List α}:a::l++m=a::(l++m):=by first|exact List.cons_append _ _|exact List.cons_append _|exact List.cons_append
theorem zzN{α:Type _}(l:List α):[]++l=l:=by first|exact List.nil_append _ _|exact List.nil_append _|exact List.nil_append
theorem zzP{α:Type _}{l m:List α}:(l++m).length=l.length+m.length:=by first|exact List.length_append _ _|exact List.length_append _|exact List.length_append
theorem zzU(n:Nat):n*1=n:=by first|exact Nat.mul_one _ _|exact Nat.mul_one _|exact Nat.mul_one
def zzE{α:Type _}{l:List α}{i:Nat}(h:i<l.length):l[i]?=some l[i]:=List.getElem?_eq_getElem h
def zzS{α:Type _}{l:List α}{i:Nat}{a:α}:l[i]?=some a↔∃h:i<l.length,l[i]=a:=List.getElem?_eq_some_iff
def zzM{α:Type _}{l:List α}{i:Nat}{a:α}(h:l[i]?=some a):a∈l:=List.mem_of_getElem? h
inductive Tr (α:Type) where
 | leaf
 | node (v:Option α) (l r:Tr α)
namespace Tr
variable {α:Type}
def get(t:Tr α):Nat->Option α :=
 Tr.rec (λ_=>none) (λv _ _ z d n=>Nat.rec v (λm _=>Bool.rec (d (Nat.div m 2)) (z (Nat.div m 2)) (Nat.beq (Nat.mod m 2) 0)) n) t
def getK(t:Tr α):Nat->(α->Prop)->Prop :=
 Tr.rec (motive:=λ_=>Nat->(α->Prop)->Prop) (λ_ _=>False)
  (λv _ _ z d n k=>Nat.rec (motive:=λ_=>Prop) (Option.rec (motive:=λ_=>Prop) False k v)
   (λm _=>Bool.rec (motive:=λ_=>Prop) (d (Nat.div m 2) k) (z (Nat.div m 2) k) (Nat.beq (Nat.mod m 2) 0)) n) t
def mk(f:Nat):Nat->α->Tr α :=
 Nat.rec (λ_ _=>.leaf) (λ_ z n x=>Nat.rec (.node (some x) .leaf .leaf)
  (λm _=>Bool.rec (.node none .leaf (z (Nat.div m 2) x)) (.node none (z (Nat.div m 2) x) .leaf) (Nat.beq (Nat.mod m 2) 0)) n) f
def mkK(f:Nat):Nat->α->(Tr α->Prop)->Prop :=
 Nat.rec (motive:=λ_=>Nat->α->(Tr α->Prop)->Prop) (λ_ _ k=>k .leaf) (λ_ z n x k=>Nat.rec (motive:=λ_=>Prop) (k (.node (some x) .leaf .leaf))
  (λm _=>Bool.rec (motive:=λ_=>Prop) (z (Nat.div m 2) x (λr=>k (.node none .leaf r))) (z (Nat.div m 2) x (λl=>k (.node none l .leaf))) (Nat.beq (Nat.mod m 2) 0)) n) f
def set(t:Tr α):Nat->α->Tr α :=
 Tr.rec (λn x=>mk (Nat.succ n) n x) (λv l r sl z n x=>Nat.rec (.node (some x) l r)
  (λm _=>Bool.rec (.node v l (z (Nat.div m 2) x)) (.node v (sl (Nat.div m 2) x) r) (Nat.beq (Nat.mod m 2) 0)) n) t
def setK(t:Tr α):Nat->α->(Tr α->Prop)->Prop :=
 Tr.rec (motive:=λ_=>Nat->α->(Tr α->Prop)->Prop) (λn x k=>mkK (Nat.succ n) n x k) (λv l r sl d n x k=>Nat.rec (motive:=λ_=>Prop) (k (.node (some x) l r))
  (λm _=>Bool.rec (motive:=λ_=>Prop) (d (Nat.div m 2) x (λA=>k (.node v l A))) (sl (Nat.div m 2) x (λz=>k (.node v z r))) (Nat.beq (Nat.mod m 2) 0)) n) t
def quy(m:Nat):Nat.beq (Nat.mod m 2) 0=decide (m % 2=0):=by
 show Nat.beq (m % 2) 0=_;rcases h:m % 2 with _|k
 .rfl
 .simp[Nat.beq]
@[simp] theorem get_leaf (n:Nat):(Tr.leaf:Tr α).get n=none:=rfl
theorem get_node(v:Option α)(l r:Tr α)(n:Nat) :
  (Tr.node v l r).get n=match n with|0=>v|m+1=>if m % 2=0 then l.get (m / 2)else r.get (m / 2):=by
 cases n with
 | zero=>rfl
 | succ m =>
  show(Bool.rec (motive:=λ_=>Option α) (r.get (Nat.div m 2)) (l.get (Nat.div m 2)) (Nat.beq (Nat.mod m 2) 0):Option α)=_
  exact Cc
theorem set_node(v:Option α)(l r:Tr α)(n:Nat)(x:α) :
  (Tr.node v l r).set n x=match n with|0=>.node (some x) l r|m+1=>if m % 2=0 then .node v (l.set (m / 2) x) r else .node v l (r.set (m / 2) x):=by
 cases n with
 | zero=>rfl
 | succ m =>
  show Bool.rec (motive:=λ_=>Tr α) (Tr.node v l (r.set (Nat.div m 2) x)) (Tr.node v (l.set (Nat.div m 2) x) r) (Nat.beq (Nat.mod m 2) 0)=_
  exact Cc
theorem mk_succ(f n:Nat)(x:α) :
  (mk (f+1) n x)=match n with|0=>.node (some x) .leaf .leaf|m+1=>if m % 2=0 then .node none (mk f (m / 2) x) .leaf else .node none .leaf (mk f (m / 2) x):=by
 cases n with
 | zero=>rfl
 | succ m =>
  show Bool.rec (motive:=λ_=>Tr α) (Tr.node none .leaf (mk f (Nat.div m 2) x)) (Tr.node none (mk f (Nat.div m 2) x) .leaf) (Nat.beq (Nat.mod m 2) 0)=_
  exact Cc
def qFW(f:Nat):∀(n:Nat) (x:α),n<f->∀j,(mk f n x).get j=if j=n then some x else none:=by
 induction f<;>grind[Tr.mk_succ,Tr.get_node,Tr.get_leaf]
theorem get_set(t:Tr α):∀(n:Nat) (x:α) (j:Nat),(t.set n x).get j=if j=n then some x else t.get j:=by
 induction t with
 | leaf=>intro n x j;show(mk (n+1) n x).get j=_;rw[qFW _ _ _ Ac];rfl
 | node v l r d z =>
  grind[Tr.set_node,Tr.get_node]
theorem getK_iff(t:Tr α):∀(n:Nat) (k:α->Prop),t.getK n k↔∃v,t.get n=some v/\k v:=by
 induction t with
 | leaf => intro n k;constructor
           .intro h;exact h.elim
           exact Ad
 | node v l r d z =>
  intro n k;cases n with
  | zero =>
   show(Option.rec (motive:=λ_=>Prop) False k v:Prop)↔_
   cases v<;>grind[Tr.get_node]
  | succ m =>
   show(Bool.rec (motive:=λ_=>Prop) (r.getK (Nat.div m 2) k) (l.getK (Nat.div m 2) k) (Nat.beq (Nat.mod m 2) 0):Prop)↔_
   rw[quy,get_node]
   by_cases h:m % 2=0
   .simp only[h,decide_true,if_true];exact d _ _
   .simp only[h,decide_false,if_false];exact z _ _
def qCk(f:Nat):∀(n:Nat) (x:α) (k:Tr α->Prop),mkK f n x k↔k (mk f n x):=by
 induction f with
 | zero=>intro n x k;exact Bm
 | succ f z =>
  intro n x k;cases n with
  | zero=>exact Bm
  | succ m =>
   show(Bool.rec (motive:=λ_=>Prop) (mkK f (Nat.div m 2) x (λr=>k (.node none .leaf r))) (mkK f (Nat.div m 2) x (λl=>k (.node none l .leaf))) (Nat.beq (Nat.mod m 2) 0):Prop)↔_
   rw[quy,mk_succ]
   by_cases h:m % 2=0
   .simp only[h,decide_true,if_true];exact z _ _ _
   .simp only[h,decide_false,if_false];exact z _ _ _
theorem setK_iff(t:Tr α):∀(n:Nat) (x:α) (k:Tr α->Prop),t.setK n x k↔k (t.set n x):=by
 induction t with
 | leaf=>intro n x k;exact qCk (n+1) n x k
 | node v l r d z =>
  intro n x k;cases n with
  | zero=>exact Bm
  | succ m =>
   show(Bool.rec (motive:=λ_=>Prop) (r.setK (Nat.div m 2) x (λC=>k (.node v l C))) (l.setK (Nat.div m 2) x (λA=>k (.node v A r))) (Nat.beq (Nat.mod m 2) 0):Prop)↔_
   rw[quy,set_node]
   by_cases h:m % 2=0
   .simp only[h,decide_true,if_true];exact d _ _ _
   .simp only[h,decide_false,if_false];exact z _ _ _
end Tr
def zz4:=@Tr.get_set
inductive AV where
 | b (x:Bool)
 | i (k:IntKind) (n:Int)
 | s (x:List UInt8)
 | nilp
 | ptr (blk off:Nat)
 | nils
 | sl (blk off len cap:Nat) (loose:Bool)
 | nilf
 | fn (f:Nat) (first cap:List AV)
 | nili
 | ifc (t:Nat) (v:AV)
 | agg (cs:List AV)
 | tup (cs:List AV)
 | nilm
 | map (r:Nat)
 | sym (id:Nat)
 | undef
 | fz (n:Nat) (cs:List AV)
 | pf (cs:List AV) (off:Nat)
 | e0
 | own (blk n:Nat)
 | nz
 | yl (blk:Nat)
 | lp (r:Loop)
inductive Blk where
 | cells (esz:Nat) (w a:Bool) (cs:List AV)
 | dead
 | map (es:List (AV×AV))
structure Hp where
 sz:Nat
 fl:Nat
 tr:Tr Blk
inductive O where
 | t (n:Nat)
 | c (v:AV)
inductive PK where
 | b|i|s
inductive NK where
 | ptr|slice|func|iface|map
inductive IOp where
 | mov (x:O)
 | pick (c x y:O)
 | alloc (zero:List AV)
 | box (x:O)
 | build (zero:List AV) (parts:List (Nat×Nat×O))
 | buildS (len:Nat) (zero:List AV) (parts:List (Nat×Nat×O))
 | load1 (x:O)
 | loadN (n:Nat) (x:O)
 | store (n:Nat) (x v:O)
 | nilChk (x:O)
 | bin (op:BinOp) (x y:O)
 | eqB (neg:Bool) (x y:O)
 | eqN (neg:Bool) (q:NK) (x:O)
 | un (op:UnOp) (x:O)
 | cvInt (k:IntKind) (x:O)
 | s2b (x:O)
 | b2s (x:O)
 | fAddr (off:Nat) (x:O)
 | fld (off:Nat) (n:Option Nat) (x:O)
 | iAddrA (len esz:Nat) (x i:O)
 | iAddrS (esz:Nat) (x i:O)
 | idxA (len esz:Nat) (agg:Bool) (x i:O)
 | idxS (x i:O)
 | slcS (esz:Nat) (x:O) (lo hi mx:Option O)
 | slcStr (x:O) (lo hi:Option O)
 | slcA (len esz:Nat) (x:O) (lo hi mx:Option O)
 | ext (x:O) (i:Nat)
 | mkF (f:Nat) (first cap:List O)
 | mkS (esz bytes:Nat) (zero:List AV) (len cap:O)
 | len (str:Bool) (x:O)
 | app (esz bytes:Nat) (consume:Bool) (s x:O)
 | copy (esz:Nat) (d s:O)
 | max (x y:O)
 | clear (zero:List AV) (x:O)
 | mkM
 | lookM (kd:Option IntKind) (ok:Bool) (zero:AV) (x i:O)
 | updM (kd:Option IntKind) (x i v:O)
 | min (x y:O)
 | rangeS (x:O)
 | nextS (x:O)
 | storeD (n:Nat) (x v:O) (ps:List Nat)
 | appZ (esz bytes:Nat) (zero:List AV) (s x:O)
 | cap (x:O)
 | appD (esz bytes:Nat) (s x:O) (ps:List Nat)
 | cvR (x:O)
 | rngE (x:O)
 | nxtE (x:O)
 | no
inductive RK where
 | op (o:IOp)
 | callF (f:Nat) (args:List O)
 | callV (x:O) (args:List O)
 | callW (f:Nat) (args:List O)
 | callVW (x:O) (args:List O)
structure ROp where
 dst:Option Nat
 k:RK
 guard:Option (Nat×Bool)
inductive ICode where
 | skip
 | reg (draw:Bool) (ops:List ROp)
 | seq (x y:ICode)
 | cond (c:O) (x y:ICode)
 | blk (id:Nat) (x:ICode)
 | loop (x:ICode)
 | exit (id:Nat)
 | ret
 | no
 | cut (x:ICode)
 | rangeF (j:Nat) (g:O) (ps:List Nat) (x y:ICode)
inductive RV where
 | tmp (n:Nat)
 | cell (n size:Nat) (agg:Bool)
structure IFn where
 res:List RV
 body:ICode
inductive X where
 | normal
 | exit (id:Nat)
 | ret
structure Orc where
 bin:BinOp->AV->AV->Option AV
 len:Nat->Option AV
 cv:IntKind->Nat->Option AV
def qq(n:Nat)(k:Nat->Prop):Prop:=Nat.rec (motive:=λ_=>Prop) (k 0) (λm _=>k (Nat.succ m)) n
def xY(n:Int)(k:Int->Prop):Prop:=Int.rec (motive:=λ_=>Prop) (λm=>qq m (λm=>k (.ofNat m))) (λm=>qq m (λm=>k (.negSucc m))) n
def qX(x:Bool)(k:Bool->Prop):Prop:=Bool.rec (motive:=λ_=>Prop) (k false) (k true) x
@[simp] theorem qy (n:Nat) (k:Nat->Prop):qq n k=k n:=by cases n<;>rfl
@[simp] theorem zH (n:Int) (k:Int->Prop):xY n k=k n:=by cases n<;>simp[xY]
@[simp] theorem qV (n:Bool) (k:Bool->Prop):qX n k=k n:=by cases n<;>rfl
def qjh(l:List AV):Nat->(AV->Prop)->Prop :=
 List.rec (motive:=λ_=>Nat->(AV->Prop)->Prop) (λ_ _=>False) (λx _ z n k=>Nat.rec (motive:=λ_=>Prop) (k x) (λm _=>z m k) n) l
def qbu(n:Nat):List AV->(List AV->Prop)->Prop :=
 Nat.rec (motive:=λ_=>List AV->(List AV->Prop)->Prop) (λ_ k=>k []) (λ_ d l k=>List.rec (motive:=λ_=>Prop) False (λx A _=>d A (λz=>k (x::z))) l) n
def qcM(n:Nat):List AV->(List AV->Prop)->Prop :=
 Nat.rec (motive:=λ_=>List AV->(List AV->Prop)->Prop) (λl k=>k l) (λ_ z l k=>List.rec (motive:=λ_=>Prop) False (λ_ d _=>z d k) l) n
def qEn(vs:List AV):List AV->(List AV->Prop)->Prop :=
 List.rec (motive:=λ_=>List AV->(List AV->Prop)->Prop) (λl k=>k l) (λv _ d l k=>List.rec (motive:=λ_=>Prop) False (λ_ A _=>d A (λz=>k (v::z))) l) vs
def jB(vs:List AV)(off:Nat):List AV->(List AV->Prop)->Prop :=
 Nat.rec (motive:=λ_=>List AV->(List AV->Prop)->Prop) (λl k=>qEn vs l k) (λ_ z l k=>List.rec (motive:=λ_=>Prop) False (λx d _=>z d (λA=>k (x::A))) l) off
def qmt(zy:List AV)(A:List AV)(k:List AV->Prop):Prop :=
 List.rec (motive:=λ_=>(List AV->Prop)->Prop) (λk=>k A) (λx _ d k=>d (λz=>k (x::z))) zy k
def qio(l:List AV)(k:Nat->Prop):Prop :=
 List.rec (motive:=λ_=>Nat->(Nat->Prop)->Prop) (λn k=>k n) (λ_ _ z n k=>qq (Nat.succ n) (λm=>z m k)) l 0 k
def qkw(z:List AV)(n:Nat)(k:List AV->Prop):Prop :=
 Nat.rec (motive:=λ_=>(List AV->Prop)->Prop) (λk=>k []) (λ_ A k=>A (λd=>qmt z d k)) n k
theorem jn(l:List AV):∀(n:Nat) (k:AV->Prop),qjh l n k↔∃v,l[n]?=some v/\k v:=by
 induction l with
 | nil => intro n k;constructor
          .intro h;exact h.elim
          exact Ad
 | cons x A z =>
  intro n k;cases n with
  | zero=>simp only[zzn,Option.some.injEq];exact⟨λh=>⟨x,rfl,h⟩,fun⟨v,h,d⟩=>h ▸ d⟩
  | succ n=>simp only[List.getElem?_cons_succ];exact z n k
theorem zk(n:Nat):∀(l:List AV) (k:List AV->Prop),qbu n l k↔n<=l.length/\k (l.take n):=by
 induction n with
 | zero=>intro l k;simp;exact Bm
 | succ n z =>
  intro l k;cases l with
  | nil=>simp;exact λh=>h
  | cons x d=>simp only[zze,List.take_succ_cons,Nat.add_le_add_iff_right];exact z d (λA=>k (x::A))
theorem zP(n:Nat):∀(l:List AV) (k:List AV->Prop),qcM n l k↔n<=l.length/\k (l.drop n):=by
 induction n with
 | zero=>intro l k;simp;exact Bm
 | succ n z =>
  intro l k;cases l with
  | nil=>simp;exact λh=>h
  | cons x d=>simp only[zze,List.drop_succ_cons,Nat.add_le_add_iff_right];exact z d k
def qvH(vs:List AV):∀(l:List AV) (k:List AV->Prop),qEn vs l k↔vs.length<=l.length/\k (vs++l.drop vs.length):=by
 induction vs with
 | nil=>intro l k;simp;exact Bm
 | cons v vs z =>
  intro l k;cases l with
  | nil=>simp;exact λh=>h
  | cons x d=>simp only[zze,List.drop_succ_cons,Nat.add_le_add_iff_right,zzC];exact z d (λA=>k (v::A))
theorem jW(vs:List AV)(off:Nat):∀(l:List AV) (k:List AV->Prop),
  jB vs off l k↔off+vs.length<=l.length/\k (l.take off++(vs++l.drop (off+vs.length))):=by
 induction off with
 | zero=>intro l k;simp only[Nat.zero_add,List.take_zero,zzN];exact qvH vs l k
 | succ n z =>
  intro l k;cases l with
  | nil => simp only[List.length_nil,Nat.le_zero];constructor
           .intro h;exact h.elim
           exact Ac
  | cons x d =>
   have e:n+1+vs.length=(n+vs.length)+1:=Ac
   simp only[e,zze,List.take_succ_cons,List.drop_succ_cons,Nat.add_le_add_iff_right,zzC];exact z d (λA=>k (x::A))
theorem wp(zy z:List AV):∀(k:List AV->Prop),qmt zy z k↔k (zy++z):=by
 induction zy with
 | nil=>intro k;exact Bm
 | cons x C A=>intro k;exact A (λd=>k (x::d))
theorem wF(l:List AV)(k:Nat->Prop):qio l k↔k l.length:=by
 have z:∀(l:List AV) (n:Nat),(List.rec (motive:=λ_=>Nat->(Nat->Prop)->Prop) (λn k=>k n) (λ_ _ d n k=>qq (Nat.succ n) (λm=>d m k)) l n k:Prop)↔k (l.length+n):=by
  intro l
  induction l with
  | nil=>exact Ad
  | cons x A d =>
   grind[qy]
 exact z l 0
theorem qaz(z:List AV)(n:Nat):∀(k:List AV->Prop),qkw z n k↔k (List.replicate n z).flatten:=by
 induction n with
 | zero=>intro k;simp;exact Bm
 | succ n A =>
  intro k;have h:=A (λd=>qmt z d k)
  rw[List.replicate_succ,List.flatten_cons];exact h.trans (wp _ _ _)
def hi:IntKind->Nat
 | .i8=>127 | .i16=>32767 | .i32=>2147483647 | .i64=>9223372036854775807
 | .u8=>255 | .u16=>65535 | .u32=>4294967295 | .u64=>18446744073709551615
def qkH(k:IntKind)(n:Int):Int :=
 Int.rec (motive:=λ_=>Int) (λm=>Bool.rec (motive:=λ_=>Int) (k.wrap (.ofNat m)) (.ofNat m) (Nat.ble m (hi k))) (λm=>k.wrap (.negSucc m)) n
def qeh(k:IntKind)(n:Int):qkH k n=k.wrap n:=by
 cases n with
 | ofNat m =>
  show(Bool.rec (motive:=λ_=>Int) (k.wrap (.ofNat m)) (.ofNat m) (Nat.ble m (hi k)):Int)=_
  cases h:Nat.ble m (hi k)with
  | false=>rfl
  | true =>
   have z:m<=hi k:=Ad
   show(Int.ofNat m)=_;cases k<;>simp[hi]at z<;>simp[IntKind.wrap,IntKind.bits,IntKind.signed]<;>omega
 | negSucc m=>rfl
def ltI(x y:Int):Bool :=
 Int.rec (motive:=λ_=>Bool) (λm=>Int.rec (motive:=λ_=>Bool) (λn=>Nat.ble (Nat.succ m) n) (λ_=>false) y)
  (λm=>Int.rec (motive:=λ_=>Bool) (λ_=>true) (λn=>Nat.ble (Nat.succ n) m) y) x
def eqI(x y:Int):Bool :=
 Int.rec (motive:=λ_=>Bool) (λm=>Int.rec (motive:=λ_=>Bool) (λn=>Nat.beq m n) (λ_=>false) y)
  (λm=>Int.rec (motive:=λ_=>Bool) (λ_=>false) (λn=>Nat.beq m n) y) x
def qei(m n:Nat):Nat.ble m n=decide (m<=n):=by
 grind[Nat.le_of_ble_eq_true,Nat.ble_eq_true_of_le]
def qde(x y:Int):ltI x y=decide (x<y):=by
 cases x<;>cases y<;>simp[ltI,qei]<;>omega
def qi7(x y:Int):eqI x y=(x==y):=by
 rw[Bool.eq_iff_iff];cases x<;>cases y<;>simp[eqI]<;>omega
def p2(n:Nat):Int:=Int.ofNat (Nat.pow 2 n)
def qtJ(n:Nat):p2 n=(2:Int) ^ n:=by
 show((2 ^ n:Nat):Int)=_;simp
def eqS(x:List UInt8):List UInt8->Bool :=
 List.rec (motive:=λ_=>List UInt8->Bool) (λy=>List.rec (motive:=λ_=>Bool) true (λ_ _ _=>false) y)
  (λc _ z y=>List.rec (motive:=λ_=>Bool) false (λd ds _=>Bool.rec (motive:=λ_=>Bool) false (z ds) (Nat.beq c.toNat d.toNat)) y) x
def qcg(x:List UInt8):∀y,eqS x y=(x==y):=by
 induction x with
 | nil=>intro y;cases y<;>rfl
 | cons c A z =>
  intro y;cases y with
  | nil=>rfl
  | cons d ds =>
   show(Bool.rec (motive:=λ_=>Bool) false (eqS A ds) (Nat.beq c.toNat d.toNat):Bool)=_
   rw[z]
   have:Nat.beq c.toNat d.toNat=(c==d):=Hb
   rw[this];cases h:(c==d)<;>simp[h]
def ltS(x:List UInt8):List UInt8->Bool :=
 List.rec (motive:=λ_=>List UInt8->Bool) (λy=>List.rec (motive:=λ_=>Bool) false (λ_ _ _=>true) y)
  (λc _ z y=>List.rec (motive:=λ_=>Bool) false (λd ds _=>Bool.rec (motive:=λ_=>Bool) (Bool.rec (motive:=λ_=>Bool) false (z ds) (Nat.beq c.toNat d.toNat)) true (Nat.ble (Nat.succ c.toNat) d.toNat)) y) x
def qkY(x:List UInt8):∀y,ltS x y=Op.bytesLess x y:=by
 induction x with
 | nil=>intro y;cases y<;>rfl
 | cons c D z =>
  intro y;cases y with
  | nil=>rfl
  | cons d ds =>
   show(Bool.rec (motive:=λ_=>Bool) (Bool.rec (motive:=λ_=>Bool) false (ltS D ds) (Nat.beq c.toNat d.toNat)) true (Nat.ble (Nat.succ c.toNat) d.toNat):Bool)=_
   rw[z,qei]
   have A:Nat.beq c.toNat d.toNat=(c==d):=Hb
   have C:decide (c.toNat.succ<=d.toNat)=decide (c<d):=by
    rw[decide_eq_decide,UInt8.lt_iff_toNat_lt];exact Ac
   rw[A,C];simp only[Op.bytesLess];cases decide (c<d)<;>cases(c==d)<;>rfl
def qas(h:Hp)(b:Nat)(k:Nat->Bool->Bool->List AV->Prop):Prop :=
 h.tr.getK b (λx=>Blk.rec (motive:=λ_=>Prop) k False (λ_=>False) x)
def x6(h:Hp)(x:Blk)(k:Nat->Hp->Prop):Prop :=
 Hp.rec (motive:=λ_=>Prop) (λd A tr=>tr.setK d x (λz=>qq (Nat.succ d) (λs=>k d ⟨s,A,z⟩))) h
def jG(h:Hp)(b:Nat)(x:Blk)(k:Hp->Prop):Prop :=
 Hp.rec (motive:=λ_=>Prop) (λA d tr=>Bool.rec (motive:=λ_=>Prop) False (tr.setK b x (λz=>k ⟨A,d,z⟩)) (Nat.ble d b)) h
def ldK(h:Hp)(b off:Nat)(k:AV->Prop):Prop:=qas h b (λ_ _ _ z=>qjh z off k)
def qb4(h:Hp)(b off n:Nat)(k:List AV->Prop):Prop:=qas h b (λ_ _ _ z=>qcM off z (λl=>qbu n l k))
def zt(v:AV):Bool:=AV.rec (motive_1:=λ_=>Bool) (motive_2:=λ_=>Bool)
 (λ_=>true) (λ_ _=>true) (λ_=>true) true (λ_ _=>true) true (λ_ _ _ _ _=>true) true (λ_ _ _ _ _=>true) true (λ_ _ _=>true) (λ_ _=>false) (λ_ _=>false) true (λ_=>true) (λ_=>true) false (λ_ _ _=>true) (λ_ _ _=>true) true (λ_ _=>true) true (λ_=>true) (λ_=>false)
 true (λ_ _ h t=>Bool.rec (motive:=λ_=>Bool) false t h) v
def qF(l:List AV):Bool:=List.rec (motive:=λ_=>Bool) true (λv _ z=>Bool.rec (motive:=λ_=>Bool) false z (zt v)) l
def ldV(h:Hp)(p:AV)(k:AV->Prop):Prop:=match p with | .ptr b o=>ldK h b o k | .pf z o=>qjh z o k|_=>False
def qlK(h:Hp)(p:AV)(n:Nat)(k:List AV->Prop):Prop:=match p with | .ptr b o=>qb4 h b o n k | .pf z o=>qcM o z (λl=>qbu n l k)|_=>False
def qjg(p:AV)(n:Nat)(k:AV->Prop):Prop:=match p with | .ptr b o=>qq (Nat.add o n) (λz=>k (.ptr b z)) | .pf d o=>qq (Nat.add o n) (λz=>k (.pf d z))|_=>False
def stK(h:Hp)(b off:Nat)(vs:List AV)(k:Hp->Prop):Prop :=
 qas h b (λe w a d=>Bool.rec (motive:=λ_=>Prop) False (Bool.rec (motive:=λ_=>Prop) False (jB vs off d (λz=>jG h b (.cells e w a z) k)) (qF vs)) w)
def qc7:AV->Bool
 | .undef=>false
 | _=>true
def cellsOf:AV->List AV
 | .agg z=>z
 | v=>[v]
def evK(t:Tr AV)(x:O)(k:AV->Prop):Prop:=O.rec (motive:=λ_=>Prop) (λn=>t.getK n k) k x
def ww(t:Tr AV)(xs:List O)(k:List AV->Prop):Prop :=
 List.rec (motive:=λ_=>(List AV->Prop)->Prop) (λk=>k []) (λx _ z k=>evK t x (λv=>z (λd=>k (v::d)))) xs k
def unB(v:AV)(k:Bool->Prop):Prop:=match v with | .b x=>k x|_=>False
def unI(v:AV)(k:IntKind->Int->Prop):Prop:=match v with | .i q n=>k q n|_=>False
def unN(v:AV)(k:Nat->Prop):Prop:=match v with | .i _ n=>Int.rec (motive:=λ_=>Prop) k (λ_=>False) n|_=>False
def unP(v:AV)(k:Nat->Nat->Prop):Prop:=match v with | .ptr b o=>k b o|_=>False
def qn(x:Bool)(k:Prop):Prop:=Bool.rec (motive:=λ_=>Prop) False k x
def xy(op:BinOp)(q:IntKind)(x y:Int)(k:AV->Prop):Prop :=
 match op with
 | .add=>xY (qkH q (Int.add x y)) (λr=>k (.i q r))
 | .sub=>xY (qkH q (Int.sub x y)) (λr=>k (.i q r))
 | .mul=>xY (qkH q (Int.mul x y)) (λr=>k (.i q r))
 | .quo=>Bool.rec (motive:=λ_=>Prop) (xY (qkH q (x.tdiv y)) (λr=>k (.i q r))) False (eqI y 0)
 | .rem=>Bool.rec (motive:=λ_=>Prop) (xY (x.tmod y) (λr=>k (.i q r))) False (eqI y 0)
 | .and=>xY (q.wrap (BitVec.ofInt q.bits x &&& BitVec.ofInt q.bits y).toNat) (λr=>k (.i q r))
 | .or=>xY (q.wrap (BitVec.ofInt q.bits x ||| BitVec.ofInt q.bits y).toNat) (λr=>k (.i q r))
 | .xor=>xY (q.wrap (BitVec.ofInt q.bits x ^^^ BitVec.ofInt q.bits y).toNat) (λr=>k (.i q r))
 | .andNot=>xY (q.wrap (BitVec.ofInt q.bits x &&& ~~~ (BitVec.ofInt q.bits y)).toNat) (λr=>k (.i q r))
 | .eql=>qX (eqI x y) (λr=>k (.b r))
 | .neq=>qX (eqI x y) (λr=>qX (not r) (λr=>k (.b r)))
 | .lss=>qX (ltI x y) (λr=>k (.b r))
 | .leq=>qX (ltI y x) (λr=>qX (not r) (λr=>k (.b r)))
 | .gtr=>qX (ltI y x) (λr=>k (.b r))
 | .geq=>qX (ltI x y) (λr=>qX (not r) (λr=>k (.b r)))
 | .shl | .shr=>False
def qk9(op:BinOp)(q:IntKind)(x y:Int)(k:AV->Prop):Prop :=
 Int.rec (motive:=λ_=>Prop) (λm=>qq (min m q.bits) (λn=>match op with
  | .shl=>xY (q.wrap (x*p2 n)) (λr=>k (.i q r))
  | .shr=>xY (x.fdiv (p2 n)) (λr=>k (.i q r))
  | _=>False)) (λ_=>False) y
def qbZ(op:BinOp)(x y:List UInt8)(k:AV->Prop):Prop :=
 match op with
 | .add=>Bool.rec (motive:=λ_=>Prop) False (k (.s (x++y))) (Nat.ble (x.length+y.length) 9223372036854775807)
 | .eql=>qX (eqS x y) (λr=>k (.b r))
 | .neq=>qX (eqS x y) (λr=>qX (not r) (λr=>k (.b r)))
 | .lss=>qX (ltS x y) (λr=>k (.b r))
 | .leq=>qX (ltS x y) (λr=>qX (eqS x y) (λe=>qX (or r e) (λr=>k (.b r))))
 | .gtr=>qX (ltS x y) (λr=>qX (eqS x y) (λe=>qX (not (or r e)) (λr=>k (.b r))))
 | .geq=>qX (ltS x y) (λr=>qX (not r) (λr=>k (.b r)))
 | _=>False
def qjk(r:Option AV)(k:AV->Prop):Prop:=Option.rec (motive:=λ_=>Prop) False k r
def xE(orc:Orc)(op:BinOp)(x y:AV)(k:AV->Prop):Prop :=
 match x with
 | .i q n=>(match y with
  | .i z m=>(match op with
   | .shl=>qk9 .shl q n m k
   | .shr=>qk9 .shr q n m k
   | op=>qn (decide (q=z)) (xy op q n m k))
  | .sym j=>qjk (orc.bin op (.i q n) (.sym j)) k
  | _=>False)
 | .s a=>(match y with
  | .s c=>qbZ op a c k
  | .sym j=>qjk (orc.bin op (.s a) (.sym j)) k
  | _=>False)
 | .sym j=>qjk (orc.bin op (.sym j) y) k
 | _=>False
def ju(q:NK)(x:AV)(k:Bool->Prop):Prop :=
 match q with
 | .ptr=>(match x with | .nilp=>k true | .ptr _ _=>k false | .pf _ _=>k false|_=>False)
 | .slice=>(match x with | .nils=>k true | .sl _ _ _ _ _=>k false | .fz n _=>qn (Nat.ble 1 n) (k false) | .own _ n=>qn (Nat.ble 1 n) (k false) | .nz=>k false|_=>False)
 | .func=>(match x with | .nilf=>k true | .fn _ _ _=>k false | .yl _=>k false|_=>False)
 | .iface=>(match x with | .nili=>k true | .ifc _ _=>k false|_=>False)
 | .map=>(match x with | .nilm=>k true | .map _=>k false|_=>False)
def qdq(q:PK)(x y:AV)(k:Bool->Prop):Prop :=
 match q with
 | .i=>(match x with | .i q n=>(match y with | .i z m=>qn (decide (q=z)) (qX (eqI n m) k)|_=>False)|_=>False)
 | .s=>(match x with | .s a=>(match y with | .s c=>qX (eqS a c) k|_=>False)|_=>False)
 | .b=>(match x with | .b a=>(match y with | .b c=>qX (a==c) k|_=>False)|_=>False)
def qcI(C:List PK):List AV->List AV->(Bool->Prop)->Prop :=
 List.rec (motive:=λ_=>List AV->List AV->(Bool->Prop)->Prop) (λ_ _ k=>k true)
  (λq _ z x y k=>List.rec (motive:=λ_=>Prop) False (λu A _=>List.rec (motive:=λ_=>Prop) False (λv d _=>qdq q u v (λe=>Bool.rec (motive:=λ_=>Prop) (k false) (z A d k) e)) y) x) C
def qeP(op:UnOp)(x:AV)(k:AV->Prop):Prop :=
 match op with
 | .neg=>(match x with | .i q n=>xY (q.wrap (0-n)) (λr=>k (.i q r))|_=>False)
 | .xor=>(match x with | .i q n=>xY (q.wrap (BitVec.ofInt q.bits (if q.signed then -1 else q.max) ^^^ BitVec.ofInt q.bits n).toNat) (λr=>k (.i q r))|_=>False)
 | .not=>(match x with | .b a=>qX (not a) (λr=>k (.b r))|_=>False)
 | .plus=>False
def qaj(t:Tr AV)(ps:List (Nat×Nat×O)):List AV->(List AV->Prop)->Prop :=
 List.rec (motive:=λ_=>List AV->(List AV->Prop)->Prop) (λl k=>k l)
  (λp _ d l k=>evK t p.2.2 (λv=>qn (qc7 v) (qq p.1 (λz=>qio (cellsOf v) (λn=>qn (Nat.beq n p.2.1) (jB (cellsOf v) z l (λA=>d A k))))))) ps
def qaV(t:Tr AV)(x:Option O)(k:Option AV->Prop):Prop:=Option.rec (motive:=λ_=>Prop) (k none) (λx=>evK t x (λv=>k (some v))) x
def qjI(x:Option AV)(z d:Nat)(k:Nat->Prop):Prop :=
 Option.rec (motive:=λ_=>Prop) (k z) (λv=>unN v (λn=>qn (Nat.ble n d) (qq n k))) x
def xg(len cap:Nat)(lo hi z:Option AV)(k:Nat->Nat->Nat->Prop):Prop :=
 qjI z cap cap (λm=>Option.rec (motive:=λ_=>Prop) (Option.rec (motive:=λ_=>Prop) (qn (Nat.ble len m) (qjI lo 0 len (λl=>k l len m))) (λ_=>False) z)
  (λv=>unN v (λh=>qn (Nat.ble h m) (qq h (λh=>qjI lo 0 h (λl=>k l h m))))) hi)
def qbY(h:Hp)(z:Nat)(x:AV)(k:Nat->List AV->Prop):Prop :=
 match x with
 | .nils=>k 0 []
 | .sl b o n _ _=>qb4 h b o (Nat.mul n z) (λd=>k n d)
 | .fz n d=>qbu (Nat.mul n z) d (λd=>k n d)
 | .e0=>k 0 []
 | .nz=>k 0 []
 | .own b n=>qb4 h b 0 (Nat.mul n z) (λd=>k n d)
 | .s a=>qn (Nat.beq z 1) (qq a.length (λn=>k n (a.map λc=>.i .u8 (Int.ofNat c.toNat))))
 | _=>False
def qe:Nat:=70368744177664
def qil(h:Hp)(d bytes:Nat)(consume:Bool)(s x:AV)(k:AV->Hp->Prop):Prop :=
 qbY h d x (λn new=>match s with
  | .nils=>qn (Nat.ble n qe) (qn (Nat.ble (Nat.mul n bytes) qe) (x6 h (.cells d true true new) (λb A=>k (.own b n) A)))
  | .e0=>qn (Nat.ble n qe) (qn (Nat.ble (Nat.mul n bytes) qe) (x6 h (.cells d true true new) (λb A=>k (.own b n) A)))
  | .sl b o len cap D=>Bool.rec (motive:=λ_=>Prop) (qq (Nat.add len n) (λz=>Bool.rec (motive:=λ_=>Prop)
    (qn (Nat.ble z qe) (qn (Nat.ble (Nat.mul z bytes) qe)
     (qb4 h b o (Nat.mul len d) (λI=>qmt I new (λH=>x6 h (.cells d true true H) (λF A=>k (.own F z) A))))))
    (Nat.rec (motive:=λ_=>Prop) (k (.sl b o z cap false) h) (λ_ _=>qq (Nat.add o (Nat.mul len d)) (λG=>stK h b G new (λA=>k (.sl b o z cap false) A))) n)
    (Nat.ble z cap)))
    (qq (Nat.add len n) (λz=>qn (Nat.ble z qe) (qn (Nat.ble (Nat.mul z bytes) qe) (qn (and consume (Nat.beq cap len)) (qas h b (λe w a E=>qn (qF new) (qn w (qn a (qn (Nat.beq e d) (qio E (λq=>qn (Nat.beq q (Nat.add o (Nat.mul len d))) (qcM o E (λK=>qmt K new (λC =>
    jG h b .dead (λJ=>x6 J (.cells d true true C) (λF A=>k (.own F z) A)))))))))))))))) D
  | .fz m H=>Nat.rec (motive:=λ_=>Prop) (k (.fz m H) h) (λ_ _=>False) n
  | .own b m=>qq (Nat.add m n) (λz=>qn (Nat.ble z qe) (qn (Nat.ble (Nat.mul z bytes) qe) (qn consume (qas h b (λe w a E=>qn (qF new) (qn w (qn a (qn (Nat.beq e d) (qio E (λq=>qn (Nat.beq q (Nat.mul m d)) (qmt E new (λC =>
    jG h b .dead (λJ=>x6 J (.cells d true true C) (λF A=>k (.own F z) A))))))))))))))
  | _=>False)
def qli(h:Hp)(z:Nat)(d s:AV)(k:AV->Hp->Prop):Prop :=
 match d with
 | .nils=>qbY h z s (λ_ _=>k (.i .i64 0) h)
 | .sl b o len _ _=>qbY h z s (λn new=>qq (min n len) (λm=>qbu (Nat.mul m z) new (λC=>stK h b o C (λA=>k (.i .i64 (Int.ofNat m)) A))))
 | _=>False
def xJ(d:List AV)(k:List UInt8->Prop):Prop :=
 List.rec (motive:=λ_=>(List UInt8->Prop)->Prop) (λk=>k []) (λv _ z k=>match v with
  | .i .u8 n=>Int.rec (motive:=λ_=>Prop) (λm=>z (λl=>k (UInt8.ofNat m::l))) (λ_=>False) n
  | _=>False) d k
def qlH(h:Hp)(b z:Nat)(c:Bool)(p:Prop):Prop:=Bool.rec (motive:=λ_=>Prop) p (qas h b (λe _ _ _=>qn (Nat.beq e z) p)) c
def cvK(orc:Orc)(q:IntKind)(x:AV)(k:AV->Prop):Prop :=
 match x with
 | .i _ n=>xY (qkH q n) (λr=>k (.i q r))
 | .sym j=>qjk (orc.cv q j) k
 | _=>False
def qlJ(orc:Orc)(kd:Option IntKind)(i:AV)(p:Prop):Prop :=
 match i with
 | .s _=>(match kd with|none=>p|some _=>False)
 | .i q _=>(match kd with|some z=>qn (decide (z=q)) p|none=>False)
 | .sym j=>(match kd with|none=>qjk (orc.len j) (λ_=>p)|some _=>False)
 | _=>False
def qe2(orc:Orc)(x y:AV)(k:Bool->Prop):Prop :=
 match y with
 | .s c=>(match x with | .s a=>qX (eqS a c) k | .sym j=>qjk (orc.len j) (λ_=>qjk (orc.bin .eql (.sym j) (.s c)) (λv=>unB v k))|_=>False)
 | .i q n=>(match x with | .i z m=>qn (decide (z=q)) (qX (eqI m n) k)|_=>False)
 | _=>False
def qcO(orc:Orc)(i:AV)(d:List (AV×AV)):(Option AV->Prop)->Prop :=
 List.rec (motive:=λ_=>(Option AV->Prop)->Prop) (λk=>k none) (λe _ z k=>qe2 orc i e.1 (λr=>Bool.rec (motive:=λ_=>Prop) (z k) (k (some e.2)) r)) d
def qhT(orc:Orc)(i v:AV)(A:List (AV×AV)):(List (AV×AV)->Prop)->Prop :=
 List.rec (motive:=λ_=>(List (AV×AV)->Prop)->Prop) (λk=>k [(i,v)]) (λe z d k=>qe2 orc i e.1 (λr=>Bool.rec (motive:=λ_=>Prop) (d (λl=>k (e::l))) (k ((i,v)::z)) r)) A
def qeZ(z:List (AV×AV))(p:Prop):Prop :=
 List.rec (motive:=λ_=>Prop) p (λe _ _=>match e.1 with | .undef=>False | .lp _=>False|_=>p) z
def qip(h:Hp)(b:Nat)(k:List (AV×AV)->Prop):Prop :=
 h.tr.getK b (λx=>Blk.rec (motive:=λ_=>Prop) (λ_ _ _ _=>False) False (λz=>qeZ z (k z)) x)
def zu(r:Loop)(ts:List (Nat×AV)):List (AV×AV):=(.lp r,.undef)::ts.map λp=>(.i .i64 (Int.ofNat p.1),p.2)
def xI(a:List UInt8)(n:Nat):List (AV×AV):=[(.undef,.s a),(.undef,.i .i64 (Int.ofNat n))]
def qop(h:Hp)(b:Nat)(k:List UInt8->Nat->Prop):Prop :=
 h.tr.getK b (λx=>Blk.rec (motive:=λ_=>Prop) (λ_ _ _ _=>False) False (λz=>match z with
  | [(.undef,.s a),(.undef,.i .i64 (.ofNat n))]=>k a n
  | _=>False) x)
def itM(r:Nat):List (AV×AV):=[(.undef,.map r)]
def qyf(h:Hp)(b:Nat)(k:Nat->Prop):Prop :=
 h.tr.getK b (λx=>Blk.rec (motive:=λ_=>Prop) (λ_ _ _ _=>False) False (λz=>match z with
  | [(.undef,.map r)]=>k r
  | _=>False) x)
def qik(ok:Bool)(zero:AV)(v:Option AV)(k:AV->Prop):Prop :=
 Option.rec (motive:=λ_=>Prop) (Bool.rec (motive:=λ_=>Prop) (k zero) (k (.tup [zero,.b false])) ok) (λv=>Bool.rec (motive:=λ_=>Prop) (k v) (k (.tup [v,.b true])) ok) v
def qEd(d:List (AV×AV))(k:Nat->Prop):Prop :=
 List.rec (motive:=λ_=>Nat->(Nat->Prop)->Prop) (λn k=>k n) (λ_ _ z n k=>qq (Nat.succ n) (λm=>z m k)) d 0 k
def jC(t:Tr AV)(b:Nat)(ps:List Nat)(p:Prop):Prop :=
 List.rec (motive:=λ_=>Prop) p (λq _ z=>t.getK q (λy=>match y with | .ptr d _=>qn (not (Nat.beq d b)) z | .pf _ _=>z|_=>False)) ps
def qcx(t:Tr AV)(ps:List Nat)(s:AV)(p:Prop):Prop :=
 match s with | .own b _=>jC t b ps p | .sl b _ _ _ _=>jC t b ps p | .fz _ _=>p | .nils=>p | .e0=>p|_=>False
def opK(orc:Orc)(o:IOp)(t:Tr AV)(h:Hp)(k:AV->Hp->Prop):Prop :=
 match o with
 | .mov x=>evK t x (λv=>k v h)
 | .pick c x y=>evK t c (λc=>unB c (λc=>Bool.rec (motive:=λ_=>Prop) (evK t y (λv=>k v h)) (evK t x (λv=>k v h)) c))
 | .alloc z=>x6 h (.cells 0 true false z) (λb C=>k (.ptr b 0) C)
 | .box x=>evK t x (λv=>qn (qc7 v) (x6 h (.cells 0 true false (cellsOf v)) (λb C=>k (.ptr b 0) C)))
 | .build z Q=>qaj t Q z (λE=>k (.agg E) h)
 | .buildS n z Q=>qkw z n (λE=>qaj t Q E (λE=>x6 h (.cells 0 true false E) (λb C=>k (.sl b 0 n n false) C)))
 | .load1 x=>evK t x (λp=>ldV h p (λv=>k v h))
 | .loadN n x=>evK t x (λp=>qlK h p n (λE=>k (.agg E) h))
 | .store n x v=>evK t x (λp=>unP p (λb o=>evK t v (λv=>qn (qc7 v) (qio (cellsOf v) (λm=>qn (Nat.beq m n) (stK h b o (cellsOf v) (λC=>k .undef C)))))))
 | .nilChk x=>evK t x (λv=>match v with | .ptr b o=>k (.ptr b o) h | .fn f a c=>k (.fn f a c) h | .map r=>k (.map r) h | .pf E o=>k (.pf E o) h | .yl b=>k (.yl b) h|_=>False)
 | .bin op x y=>evK t x (λx=>evK t y (λy=>xE orc op x y (λv=>k v h)))
 | .eqB M x y=>evK t x (λx=>evK t y (λy=>unB x (λx=>unB y (λy=>qX (xor M (x==y)) (λr=>k (.b r) h)))))
 | .eqN M q x=>evK t x (λx=>ju q x (λr=>qX (xor M r) (λr=>k (.b r) h)))
 | .un op x=>evK t x (λx=>qeP op x (λv=>k v h))
 | .cvInt q x=>evK t x (λx=>cvK orc q x (λv=>k v h))
 | .s2b x=>evK t x (λx=>match x with | .s a=>qq a.length (λn=>x6 h (.cells 1 true true (a.map λc=>.i .u8 (Int.ofNat c.toNat))) (λb C=>k (.own b n) C))|_=>False)
 | .b2s x=>evK t x (λx=>match x with
  | .nils=>k (.s []) h
  | .sl b o n _ _=>qb4 h b o n (λE=>xJ E (λl=>k (.s l) h))
  | .fz n E=>qbu n E (λE=>xJ E (λl=>k (.s l) h))
  | .e0=>k (.s []) h
  | .own b n=>qb4 h b 0 n (λE=>xJ E (λl=>k (.s l) h))
  | _=>False)
 | .fAddr L x=>evK t x (λp=>qjg p L (λv=>k v h))
 | .fld L n x=>evK t x (λx=>match x with
  | .agg E=>Option.rec (motive:=λ_=>Prop) (qjh E L (λv=>k v h)) (λn=>qcM L E (λl=>qbu n l (λl=>k (.agg l) h))) n
  | _=>False)
 | .iAddrA len A x i=>evK t x (λp=>evK t i (λi=>unN i (λi=>qn (Nat.ble (Nat.succ i) len) (qjg p (Nat.mul i A) (λv=>k v h)))))
 | .iAddrS A x i=>evK t x (λx=>match x with
  | .sl b o len _ _=>evK t i (λi=>unN i (λi=>qn (Nat.ble (Nat.succ i) len) (qq (Nat.add o (Nat.mul i A)) (λK=>k (.ptr b K) h))))
  | .fz len E=>evK t i (λi=>unN i (λi=>qn (Nat.ble (Nat.succ i) len) (qq (Nat.mul i A) (λK=>k (.pf E K) h))))
  | .own b len=>evK t i (λi=>unN i (λi=>qn (Nat.ble (Nat.succ i) len) (qq (Nat.mul i A) (λK=>k (.ptr b K) h))))
  | _=>False)
 | .idxA len A agg x i=>evK t x (λx=>match x with
  | .agg E=>evK t i (λi=>unN i (λi=>qn (Nat.ble (Nat.succ i) len) (qq (Nat.mul i A) (λo=>Bool.rec (motive:=λ_=>Prop) (qjh E o (λv=>k v h)) (qcM o E (λl=>qbu A l (λl=>k (.agg l) h))) agg))))
  | _=>False)
 | .idxS x i=>evK t x (λx=>match x with
  | .s a=>evK t i (λi=>unN i (λi=>Option.rec (motive:=λ_=>Prop) False (λc=>k (.i .u8 (Int.ofNat c.toNat)) h) (a[i]?)))
  | _=>False)
 | .slcS A x lo hi J=>evK t x (λx=>qaV t lo (λlo=>qaV t hi (λhi=>qaV t J (λJ=>match x with
  | .nils=>xg 0 0 lo hi J (λ_ _ _=>k .nils h)
  | .e0=>xg 0 0 lo hi J (λ_ _ _=>k .e0 h)
  | .fz n E=>xg n n lo hi J (λl C m=>Bool.rec (motive:=λ_=>Prop) (qcM (Nat.mul l A) E (λl1=>qq (C-l) (λF=>qbu (Nat.mul F A) l1 (λl2=>k (.fz F l2) h)))) (k .e0 h) (and J.isSome (Nat.beq m l)))
  | .sl b o len cap G=>xg len cap lo hi J (λl C m=>qq (if(G&&J.isNone)=false/\m=l then o else Nat.add o (Nat.mul l A)) (λK=>qq (C-l) (λF=>qq (m-l) (λH =>
    qlH h b A (G&&J.isNone) (k (.sl b K F H (G&&J.isNone)) h)))))
  | .own b n=>Option.rec (motive:=λ_=>Prop) (Nat.rec (motive:=λ_=>Prop) (xg 0 0 lo hi none (λ_ _ _=>k (.own b 0) h))
    (λR _=>xg (Nat.succ R) (Nat.succ R) lo hi none (λl C m=>qq (Nat.mul l A) (λK=>qq (C-l) (λF=>qq (m-l) (λH=>qlH h b A true (k (.sl b K F H true) h)))))) n)
    (λ_=>Nat.rec (motive:=λ_=>Prop) (xg 0 0 lo hi J (λ_ _ _=>k (.own b 0) h))
    (λR _=>xg (Nat.succ R) (Nat.succ R) lo hi J (λl C m=>qq (if m=l then 0 else Nat.mul l A) (λK=>qq (C-l) (λF=>qq (m-l) (λH=>k (.sl b K F H false) h))))) n) J
  | _=>False))))
 | .slcStr x lo hi=>evK t x (λx=>qaV t lo (λlo=>qaV t hi (λhi=>match x with
  | .s a=>xg a.length a.length lo hi none (λl C _=>k (.s ((a.take C).drop l)) h)
  | _=>False)))
 | .slcA len A x lo hi J=>evK t x (λp=>unP p (λb o=>qaV t lo (λlo=>qaV t hi (λhi=>qaV t J (λJ =>
   xg len len lo hi J (λl C m=>qq (if m=l then o else Nat.add o (Nat.mul l A)) (λK=>qq (C-l) (λF=>qq (m-l) (λH=>k (.sl b K F H false) h))))))))) 
 | .ext x i=>evK t x (λx=>match x with | .tup E=>qjh E i (λv=>k v h)|_=>False)
 | .mkF f a c=>ww t a (λa=>ww t c (λc=>k (.fn f a c) h))
 | .mkS _ D z len cap=>evK t len (λlen=>evK t cap (λcap=>unN len (λl=>unN cap (λc=>qn (Nat.ble l c) (qn (Nat.ble c qe) (qn (Nat.ble (Nat.mul D c) qe) (qkw z c (λE=>x6 h (.cells 0 true false E) (λb C=>k (.sl b 0 l c false) C)))))))))
 | .len I x=>evK t x (λx=>match x with
  | .nils=>Bool.rec (motive:=λ_=>Prop) (k (.i .i64 0) h) False I
  | .e0=>Bool.rec (motive:=λ_=>Prop) (k (.i .i64 0) h) False I
  | .nz=>Bool.rec (motive:=λ_=>Prop) (k (.i .i64 0) h) False I
  | .fz n _=>Bool.rec (motive:=λ_=>Prop) (k (.i .i64 (Int.ofNat n)) h) False I
  | .own _ n=>Bool.rec (motive:=λ_=>Prop) (k (.i .i64 (Int.ofNat n)) h) False I
  | .sl _ _ n _ _=>Bool.rec (motive:=λ_=>Prop) (k (.i .i64 (Int.ofNat n)) h) False I
  | .s a=>Bool.rec (motive:=λ_=>Prop) False (qq a.length (λn=>k (.i .i64 (Int.ofNat n)) h)) I
  | .sym j=>Bool.rec (motive:=λ_=>Prop) False (qjk (orc.len j) (λv=>k v h)) I
  | _=>False)
 | .app A D c s x=>evK t s (λs=>evK t x (λx=>qil h A D c s x k))
 | .copy A d s=>evK t d (λd=>evK t s (λs=>qli h A d s k))
 | .max x y=>evK t x (λx=>evK t y (λy=>unI x (λq n=>unI y (λ_ m=>Bool.rec (motive:=λ_=>Prop) (k (.i q n) h) (k (.i q m) h) (ltI n m)))))
 | .clear z x=>evK t x (λx=>match x with
  | .nils=>k (.tup []) h
  | .sl b o n _ _=>Nat.rec (motive:=λ_=>Prop) (k (.tup []) h) (λ_ _=>qkw z n (λE=>stK h b o E (λC=>k (.tup []) C))) n
  | _=>False)
 | .mkM=>x6 h (.map []) (λb C=>k (.map b) C)
 | .lookM kd ok zero x i=>evK t x (λx=>evK t i (λi=>qlJ orc kd i (match x with
  | .nilm=>qik ok zero none (λv=>k v h)
  | .map r=>qip h r (λN=>qcO orc i N (λv=>qik ok zero v (λv=>k v h)))
  | _=>False)))
 | .updM kd x i v=>evK t x (λx=>evK t i (λi=>evK t v (λv=>qlJ orc kd i (match x with
  | .map r=>qip h r (λN=>qhT orc i v N (λU=>jG h r (.map U) (λC=>k .undef C)))
  | _=>False))))
 | .min x y=>evK t x (λx=>evK t y (λy=>unI x (λq n=>unI y (λ_ m=>Bool.rec (motive:=λ_=>Prop) (k (.i q n) h) (k (.i q m) h) (ltI m n)))))
 | .rangeS x=>evK t x (λx=>match x with
  | .s a=>x6 h (.map (xI a 0)) (λb C=>k (.ptr b 0) C)
  | _=>False)
 | .nextS x=>evK t x (λx=>unP x (λb o=>qn (Nat.beq o 0) (qop h b (λa n=>match a[n]? with
  | some c=>Bool.rec (motive:=λ_=>Prop)
    (jG h b (.map (xI a (Nat.add n (Utf8.decode ⟨a.toArray⟩ n).2))) (λC=>k (.tup [.b true,.i .i64 (Int.ofNat n),.i .i32 (Int.ofNat (Utf8.decode ⟨a.toArray⟩ n).1)]) C))
    (qq (Nat.succ n) (λm=>jG h b (.map (xI a m)) (λC=>k (.tup [.b true,.i .i64 (Int.ofNat n),.i .i32 (Int.ofNat c.toNat)]) C)))
    (Nat.ble (Nat.succ c.toNat) 128)
  | none=>k (.tup [.b false]) h))))
 | .storeD n x v Q=>evK t x (λp=>unP p (λb o=>jC t b Q (evK t v (λv=>qn (qc7 v) (qio (cellsOf v) (λm=>qn (Nat.beq m n) (stK h b o (cellsOf v) (λC=>k .undef C))))))))
 | .appD A D s x Q=>evK t s (λs=>evK t x (λx=>qcx t Q s (qil h A D true s x k)))
 | .appZ A D z s x=>evK t s (λs=>evK t x (λx=>unN x (λn=>match s with
  | .sl b o len cap G=>qn (not G) (qn (Nat.ble (Nat.succ cap) (Nat.add len n)) (qn (Nat.ble (Nat.add len n) qe) (qn (Nat.ble (Nat.mul (Nat.add len n) D) qe)
    (qb4 h b o (Nat.mul len A) (λW=>qkw z n (λnew=>qmt W new (λE=>x6 h (.cells A true true E) (λY C=>k (.own Y (Nat.add len n)) C))))))))
  | .nils=>qn (Nat.ble 1 n) (qn (Nat.ble n qe) (qn (Nat.ble (Nat.mul n D) qe) (qkw z n (λnew=>x6 h (.cells A true true new) (λY C=>k (.own Y n) C)))))
  | _=>False)))
 | .cap x=>evK t x (λx=>match x with
  | .nils=>k (.i .i64 0) h
  | .e0=>k (.i .i64 0) h
  | .sl _ _ _ c l=>Bool.rec (motive:=λ_=>Prop) (k (.i .i64 (Int.ofNat c)) h) False l
  | _=>False)
 | .cvR x=>evK t x (λx=>match x with | .i _ n=>k (.s (Utf8.encode n).data.toList) h|_=>False)
 | .rngE x=>evK t x (λx=>match x with | .map r=>qip h r (λN=>match N with | []=>x6 h (.map (itM r)) (λb C=>k (.ptr b 0) C)|_=>False)|_=>False)
 | .nxtE x=>evK t x (λx=>unP x (λb o=>qn (Nat.beq o 0) (qyf h b (λr=>qip h r (λN=>match N with | []=>k (.tup [.b false]) h|_=>False)))))
 | .no=>False
def wu(t:Tr AV)(d:Option Nat)(v:AV)(k:Tr AV->Prop):Prop:=Option.rec (motive:=λ_=>Prop) (k t) (λn=>t.setK n v k) d
def qqg(l:List AV)(n:Nat)(t:Tr AV)(k:Tr AV->Prop):Prop :=
 List.rec (motive:=λ_=>Nat->Tr AV->(Tr AV->Prop)->Prop) (λ_ t k=>k t) (λv _ z n t k=>t.setK n v (λd=>qq (Nat.succ n) (λA=>z A d k))) l n t k
def qaW(t:Tr AV)(h:Hp)(rs:List RV)(k:List AV->Prop):Prop :=
 List.rec (motive:=λ_=>(List AV->Prop)->Prop) (λk=>k []) (λr _ A k=>match r with
  | .tmp n=>t.getK n (λv=>A (λz=>k (v::z)))
  | .cell n d agg=>t.getK n (λp=>unP p (λb o=>Bool.rec (motive:=λ_=>Prop) (ldK h b o (λv=>A (λz=>k (v::z)))) (qb4 h b o d (λC=>A (λz=>k (.agg C::z)))) agg))) rs k
def qao:List AV->AV
 | [v]=>v
 | vs=>.tup vs
abbrev zA:=Nat->List AV->Hp->(AV->Hp->Prop)->Prop
def qhO(F:Hp->(AV->Hp->Prop)->Prop)(h:Hp)(k:AV->Hp->Prop):Prop :=
 Hp.rec (motive:=λ_=>Prop) (λA C tr=>F ⟨A,A,tr⟩ (λv D=>Hp.rec (motive:=λ_=>Prop) (λd _ z=>k v ⟨d,C,z⟩) D)) h
def wr:RK->Bool
 | .op (.store _ _ _) | .op (.app _ _ _ _ _) | .op (.copy _ _ _) | .op (.clear _ _) | .op (.updM _ _ _ _) | .op (.nextS _) | .op (.storeD _ _ _ _) | .op (.appD _ _ _ _ _) | .op (.rngE _) | .op (.nxtE _)=>true
 | .callW _ _ | .callVW _ _=>true
 | _=>false
def qcZ(orc:Orc)(C:zA)(r:RK)(t:Tr AV)(h:Hp)(k:AV->Hp->Prop):Prop :=
 match r with
 | .op o=>opK orc o t h k
 | .callF f args=>ww t args (λvs=>C (Nat.succ f) vs h k)
 | .callV x args=>evK t x (λg=>ww t args (λvs=>match g with | .fn f a c=>C (Nat.succ f) (a++(vs++c)) h k | .yl b=>C 0 (.yl b::vs) h k|_=>False))
 | .callW f args=>ww t args (λvs=>C (Nat.succ f) vs h k)
 | .callVW x args=>evK t x (λg=>ww t args (λvs=>match g with | .fn f a c=>C (Nat.succ f) (a++(vs++c)) h k | .yl b=>C 0 (.yl b::vs) h k|_=>False))
def qjo(orc:Orc)(draw:Bool)(C:zA)(r:RK)(t:Tr AV)(h:Hp)(k:AV->Hp->Prop):Prop :=
 Bool.rec (motive:=λ_=>Prop) (qcZ orc C r t h k) (qhO (qcZ orc C r t) h k) (and draw (not (wr r)))
def qaO(t:Tr AV)(g:Option (Nat×Bool))(k:Bool->Prop):Prop :=
 Option.rec (motive:=λ_=>Prop) (k true) (λg=>t.getK g.1 (λv=>match v with
  | .b x=>qX (x==g.2) k
  | .tup _=>k false
  | _=>False)) g
def qel(orc:Orc)(draw:Bool)(C:zA)(ops:List ROp)(Q:Tr AV->Hp->Prop):Tr AV->Hp->Prop :=
 List.rec (motive:=λ_=>Tr AV->Hp->Prop) Q (λr _ z t h=>ROp.rec (motive:=λ_=>Prop) (λA k d=>qaO t d (λE=>Bool.rec (motive:=λ_=>Prop)
  (wu t A (.tup []) (λD=>z D h)) (qjo orc draw C k t h (λv F=>wu t A v (λD=>z D F))) E)) r) ops
def tab:Nat->Option (Array Value):=λk=>if k=0 then some (Lib.pow10Tab.map λz=>Value.int .u64 z).toArray else none
class TabOk (w:World):Prop where
 ok:∀k a,tab k=some a->∃ty fz,w.heap[k]?=some (.cells a ty fz)
def L1{α:Type}(G:(α->Prop)->Prop):Prop:=∀k,G k->∃x,k x/\∀z,z x->G z
def L2{α β:Type}(G:(α->β->Prop)->Prop):Prop:=∀k,G k->∃x y,k x y/\∀z,z x y->G z
def L3{α β γ:Type}(G:(α->β->γ->Prop)->Prop):Prop:=∀k,G k->∃x y z,k x y z/\∀d,d x y z->G d
def L4{α β γ δ:Type}(G:(α->β->γ->δ->Prop)->Prop):Prop:=∀k,G k->∃x y z u,k x y z u/\∀d,d x y z u->G d
section
variable {α β γ δ ε:Type}
def L1.ret(x:α):L1 (λk=>k x):=λ_ h=>Ah
def L2.ret(x:α)(y:β):L2 (λk=>k x y):=λ_ h=>Ah
def L3.ret(x:α)(y:β)(z:γ):L3 (λk=>k x y z):=λ_ h=>Ah
def L1.no:L1 (λ(_:α->Prop)=>False):=λ_ h=>h.elim
def L2.no:L2 (λ(_:α->β->Prop)=>False):=λ_ h=>h.elim
def L3.no:L3 (λ(_:α->β->γ->Prop)=>False):=λ_ h=>h.elim
def L1.b1{G:(α->Prop)->Prop}{F:α->(β->Prop)->Prop}(z:L1 G)(A:∀x,L1 (F x)):L1 (λk=>G (λx=>F x k)):=λ_ h=>by
 obtain⟨x,d,C⟩:=z _ h;obtain⟨y,D,E⟩:=A x _ d;exact Ah
def L1.b2{G:(α->Prop)->Prop}{F:α->(β->γ->Prop)->Prop}(d:L1 G)(C:∀x,L2 (F x)):L2 (λk=>G (λx=>F x k)):=λ_ h=>by
 obtain⟨x,A,D⟩:=d _ h;obtain⟨y,z,E,H⟩:=C x _ A;exact Ah
def L1.b3{G:(α->Prop)->Prop}{F:α->(β->γ->δ->Prop)->Prop}(d:L1 G)(C:∀x,L3 (F x)):L3 (λk=>G (λx=>F x k)):=λ_ h=>by
 obtain⟨x,A,D⟩:=d _ h;obtain⟨y,z,u,E,H⟩:=C x _ A;exact Ah
def L2.b1{G:(α->β->Prop)->Prop}{F:α->β->(γ->Prop)->Prop}(d:L2 G)(C:∀x y,L1 (F x y)):L1 (λk=>G (λx y=>F x y k)):=λ_ h=>by
 obtain⟨x,y,A,D⟩:=d _ h;obtain⟨z,E,H⟩:=C x y _ A;exact Ah
def L2.b2{G:(α->β->Prop)->Prop}{F:α->β->(γ->δ->Prop)->Prop}(d:L2 G)(C:∀x y,L2 (F x y)):L2 (λk=>G (λx y=>F x y k)):=λ_ h=>by
 obtain⟨x,y,A,D⟩:=d _ h;obtain⟨z,u,E,H⟩:=C x y _ A;exact Ah
def L3.b2{G:(α->β->ε->Prop)->Prop}{F:α->β->ε->(γ->δ->Prop)->Prop}(d:L3 G)(C:∀x y e,L2 (F x y e)):L2 (λk=>G (λx y e=>F x y e k)):=λ_ h=>by
 obtain⟨x,y,e,A,E⟩:=d _ h;obtain⟨z,u,D,H⟩:=C x y e _ A;exact Ah
def L4.b1{C:Type}{G:(α->β->γ->δ->Prop)->Prop}{F:α->β->γ->δ->(C->Prop)->Prop}(d:L4 G)(D:∀x y z u,L1 (F x y z u)):L1 (λk=>G (λx y z u=>F x y z u k)):=λ_ h=>by
 obtain⟨x,y,z,u,A,E⟩:=d _ h;obtain⟨v,H,I⟩:=D x y z u _ A;exact Ah
def L4.b2{D C:Type}{G:(α->β->γ->δ->Prop)->Prop}{F:α->β->γ->δ->(D->C->Prop)->Prop}(d:L4 G)(E:∀x y z u,L2 (F x y z u)):L2 (λk=>G (λx y z u=>F x y z u k)):=λ_ h=>by
 obtain⟨x,y,z,u,A,H⟩:=d _ h;obtain⟨v,v',I,J⟩:=E x y z u _ A;exact Ah
def L1.wh(x:Bool){F:(α->Prop)->Prop}(z:L1 F):L1 (λk=>qn x (F k)):=by
 cases x
 .exact L1.no
 .exact z
def L2.wh(x:Bool){F:(α->β->Prop)->Prop}(z:L2 F):L2 (λk=>qn x (F k)):=by
 cases x
 .exact L2.no
 .exact z
def L3.wh{α β γ:Type}(x:Bool){F:(α->β->γ->Prop)->Prop}(z:L3 F):L3 (λk=>qn x (F k)):=by
 cases x
 .exact L3.no
 .exact z
def L2.br(x:Bool){F G:(α->β->Prop)->Prop}(d:L2 F)(z:L2 G):L2 (λk=>Bool.rec (motive:=λ_=>Prop) (F k) (G k) x):=by
 cases x<;>simp_all
def L1.br(x:Bool){F G:(α->Prop)->Prop}(d:L1 F)(z:L1 G):L1 (λk=>Bool.rec (motive:=λ_=>Prop) (F k) (G k) x):=by
 cases x<;>simp_all
end
theorem zd(n:Nat):L1 (qq n):=λk h=>by grind[qy]
def qjV(n:Int):L1 (xY n):=λk h=>by grind[zH]
def xn(n:Bool):L1 (qX n):=λk h=>by grind[qV]
def qmK{α:Type}(t:Tr α)(n:Nat):L1 (t.getK n):=λk h=>by
 grind[Tr.getK_iff]
def qpS{α:Type}(t:Tr α)(n:Nat)(x:α):L1 (t.setK n x):=λk h=>by grind[Tr.setK_iff]
theorem qji(l:List AV)(n:Nat):L1 (qjh l n):=λk h=>by
 grind[jn]
def qdv(n:Nat)(l:List AV):L1 (qbu n l):=λk h=>by
 grind[zk]
def qf0(n:Nat)(l:List AV):L1 (qcM n l):=λk h=>by
 grind[zP]
def qoS(vs:List AV)(n:Nat)(l:List AV):L1 (jB vs n l):=λk h=>by
 grind[jW]
def qpf(zy z:List AV):L1 (qmt zy z):=λk h=>by grind[wp]
def qmZ(l:List AV):L1 (qio l):=λk h=>by grind[wF]
def qjm(z:List AV)(n:Nat):L1 (qkw z n):=λk h=>by grind[qaz]
def qfh(h:Hp)(b:Nat):L4 (qas h b):=λk A=>by
 obtain⟨v,d,C⟩:=qmK _ _ _ A;cases v with
 | cells e w a D=>exact⟨e,w,a,D,d,λE z=>C _ z⟩
 | dead=>exact Ad
 | map=>exact Ad
def qbb(h:Hp)(x:Blk):L2 (x6 h x):=λk A=>by
 cases h with
 | mk C G tr => 
  obtain⟨H,d,E⟩:=qpS tr C x _ A;obtain⟨m,F,D⟩:=zd _ _ d;exact⟨_,_,F,λI z=>E _ (D _ z)⟩
theorem qe5(h:Hp)(b:Nat)(x:Blk):L1 (jG h b x):=by
 cases h with
 | mk d z tr=>exact L1.br _ L1.no (L1.b1 (qpS tr b x) λA=>L1.ret _)
def qEb(h:Hp)(b off:Nat):L1 (ldK h b off):=L4.b1 (qfh h b) (by grind[qji])
def qjd(h:Hp)(b off n:Nat):L1 (qb4 h b off n):=L4.b1 (qfh h b) λ_ _ _ z=>L1.b1 (qf0 off z) λl=>qdv n l
def qrK(h:Hp)(b off:Nat)(vs:List AV):L1 (stK h b off vs) :=
 L4.b1 (qfh h b) λe w a z=>L1.br _ L1.no (L1.br _ L1.no (L1.b1 (qoS vs off z) (by grind[qe5])))
def qw(t:Tr AV)(x:O):L1 (evK t x):=by
 cases x
 .exact qmK _ _
 .exact L1.ret _
def qg7(t:Tr AV):∀z,L1 (ww t z)
 | []=>L1.ret _
 | x::z=>by
  show L1 (λk=>evK t x (λv=>ww t z (λd=>k (v::d))))
  exact L1.b1 (qw t x) λv=>L1.b1 (qg7 t z) λd=>L1.ret _
def qhS(v:AV):L1 (unB v):=by cases v<;>first|exact L1.no|exact L1.ret _
def qlF(v:AV):L2 (unI v):=by cases v<;>first|exact L2.no|exact L2.ret _ _
def qfP(v:AV):L1 (unN v):=by
 cases v<;>try exact L1.no
 rename_i q n;cases n
 .exact L1.ret _
 .exact L1.no
def qoW(v:AV):L2 (unP v):=by cases v<;>first|exact L2.no|exact L2.ret _ _
def qe4(t:Tr AV)(x:Option O):L1 (qaV t x):=by
 cases x
 .exact L1.ret _
 .rename_i x;show L1 (λk=>evK t x (λv=>k (some v)))
  simp_all[L1.b1,qw,L1.ret]
theorem qhJ(r:Option AV):L1 (qjk r):=by
 cases r
 .exact L1.no
 .exact L1.ret _
def qr4(x:Option AV)(d z:Nat):L1 (qjI x d z):=by
 cases x
 .exact L1.ret _
 .rename_i v;show L1 (λk=>unN v (λn=>qn (Nat.ble n z) (qq n k)))
  exact L1.b1 (qfP _) λn=>L1.wh _ (zd n)
def qbA(len cap:Nat)(lo hi z:Option AV):L3 (xg len cap lo hi z):=by
 refine L1.b3 (qr4 z cap cap) λm=>?_
 cases hi with
 | none =>
  cases z with
  | none =>
   simp_all[L3.wh,L1.b3,qr4,L3.ret]
  | some _=>exact L3.no
 | some v =>
  refine L1.b3 (qfP v) λh=>?_
  simp_all[L3.wh,L1.b3,qr4,L3.ret]
def qhR(h:Hp)(z:Nat)(x:AV):L2 (qbY h z x):=by
 unfold qbY;cases x<;>dsimp only<;>try exact L2.no
 all_goals simp_all[L2.wh,L1.b2,L2.ret,qjd,qdv]
def qjq:∀z,L1 (xJ z)
 | []=>L1.ret _
 | v::z=>by
  cases v<;>try exact L1.no
  rename_i q n;cases q<;>try exact L1.no
  cases n
  .rename_i m;show L1 (λk=>xJ z (λl=>k (UInt8.ofNat m::l)))
   exact L1.b1 (qjq z) λl=>L1.ret _
  .exact L1.no
def qjS(t:Tr AV):∀d l,L1 (qaj t d l)
 | [],l=>L1.ret l
 | p::d,l=>by
  show L1 (λk=>evK t p.2.2 (λv=>qn (qc7 v) (qq p.1 (λz=>qio (cellsOf v) (λn=>qn (Nat.beq n p.2.1) (jB (cellsOf v) z l (λA=>qaj t d A k)))))))
  exact L1.b1 (qw t p.2.2) λv=>L1.wh _ (L1.b1 (zd p.1) λz=>L1.b1 (qmZ _) λn=>L1.wh _ (L1.b1 (qoS _ _ _) λA=>qjS t d A))
def qu8(op:BinOp)(q:IntKind)(x y:Int):L1 (xy op q x y):=by
 unfold xy;cases op<;>dsimp only<;>first|exact L1.no|exact L1.b1 (qjV _) λr=>L1.ret _|exact L1.b1 (xn _) λr=>L1.b1 (xn _) λr=>L1.ret _|exact L1.b1 (xn _) λr=>L1.ret _|exact L1.br _ (L1.b1 (qjV _) λr=>L1.ret _) L1.no
def qzR(op:BinOp)(q:IntKind)(x y:Int):L1 (qk9 op q x y):=by
 cases y with
 | negSucc=>exact L1.no
 | ofNat m =>
  unfold qk9;refine L1.b1 (by grind[zd]) λn=>?_
  cases op<;>dsimp only<;>first|exact L1.no|exact L1.b1 (qjV _) λr=>L1.ret _
def qvW(op:BinOp)(x y:List UInt8):L1 (qbZ op x y):=by
 unfold qbZ;cases op<;>dsimp only<;>first|exact L1.no|exact L1.br _ L1.no (L1.ret _)|exact L1.b1 (xn _) λr=>L1.b1 (xn _) λr=>L1.b1 (xn _) λr=>L1.ret _|exact L1.b1 (xn _) λr=>L1.b1 (xn _) λr=>L1.ret _|exact L1.b1 (xn _) λr=>L1.ret _
theorem qDZ(orc:Orc)(q:IntKind)(x:AV):L1 (cvK orc q x):=by
 unfold cvK;cases x<;>dsimp only<;>try exact L1.no
 all_goals simp_all[L1.ret,qhJ]
theorem qwy(orc:Orc)(op:BinOp)(x y:AV):L1 (xE orc op x y):=by
 unfold xE;cases x<;>dsimp only<;>try exact L1.no
 .cases y<;>dsimp only<;>try exact L1.no
  .cases op<;>dsimp only<;>first|exact qzR _ _ _ _|exact L1.wh _ (qu8 _ _ _ _)
  .exact qhJ _
 .cases y<;>dsimp only<;>try exact L1.no
  .exact qvW _ _ _
  .exact qhJ _
 grind[qhJ]
def qq6(q:NK)(x:AV):L1 (ju q x):=by unfold ju;cases q<;>cases x<;>dsimp only<;>first|exact L1.no|exact L1.ret _|exact L1.wh _ (L1.ret _)
def quD(q:PK)(x y:AV):L1 (qdq q x y):=by
 unfold qdq;cases q<;>cases x<;>dsimp only<;>first|exact L1.no|(cases y<;>dsimp only<;>first|exact L1.no|exact L1.wh _ (xn _)|exact xn _)
def qr8:∀z d A,L1 (qcI z d A)
 | [],_,_=>L1.ret _
 | q::z,[],_=>L1.no
 | q::z,_::_,[]=>L1.no
 | q::z,x::d,y::A=>by
  show L1 (λk=>qdq q x y (λe=>Bool.rec (motive:=λ_=>Prop) (k false) (qcI z d A k) e))
  exact L1.b1 (quD q x y) λe=>L1.br e (L1.ret _) (qr8 z d A)
def quf(op:UnOp)(x:AV):L1 (qeP op x):=by
 unfold qeP;cases op<;>cases x<;>dsimp only<;>first|exact L1.no|exact L1.b1 (qjV _) λr=>L1.ret _|simp_all[L1.ret]
theorem qr2(h:Hp)(d bytes:Nat)(c:Bool)(s x:AV):L2 (qil h d bytes c s x):=by
 unfold qil;refine L2.b2 (qhR h d x) λn new=>?_
 cases s<;>dsimp only<;>try exact L2.no
 .exact Hu
 .rename_i b o len cap C
  refine L2.br _ (L1.b2 (zd _) λz=>L2.br _ (L2.wh _ (L2.wh _ (L1.b2 (qjd _ _ _ _) λF=>L1.b2 (qpf _ _) λH=>L2.b2 (qbb _ _) λD h'=>L2.ret _ _))) ?_)
   (L1.b2 (zd _) λz=>L2.wh _ (L2.wh _ (L2.wh _ (L4.b2 (qfh _ _) λe w a E=>L2.wh _ (L2.wh _ (L2.wh _ (L2.wh _ (L1.b2 (qmZ _) λq=>L2.wh _ (L1.b2 (qf0 _ _) λI=>L1.b2 (qpf _ _) λA=>L1.b2 (qe5 _ _ _) λG=>L2.b2 (qbb _ _) λD h'=>L2.ret _ _)))))))))
  cases n
  .exact Fs
  simp_all[L1.b2,qrK,L2.ret]
 .cases n
  .exact Fs
  .exact L2.no
 .exact Hu
 .exact L1.b2 (zd _) λz=>L2.wh _ (L2.wh _ (L2.wh _ (L4.b2 (qfh _ _) λe w a E=>L2.wh _ (L2.wh _ (L2.wh _ (L2.wh _ (L1.b2 (qmZ _) λq=>L2.wh _ (L1.b2 (qpf _ _) λA=>L1.b2 (qe5 _ _ _) λG=>L2.b2 (qbb _ _) λD h'=>L2.ret _ _))))))))
def qJ8(h:Hp)(p:AV):L1 (ldV h p):=by
 unfold ldV;cases p<;>dsimp only<;>first|exact L1.no|exact qEb _ _ _|grind[qji]
def qGc(h:Hp)(p:AV)(n:Nat):L1 (qlK h p n):=by
 unfold qlK;cases p<;>dsimp only<;>first|exact L1.no|exact qjd _ _ _ _|simp_all[L1.b1,qf0,qdv]
def qpB(p:AV)(n:Nat):L1 (qjg p n):=by
 unfold qjg;cases p<;>dsimp only<;>first|exact L1.no|exact L1.b1 (zd _) λo=>L1.ret _
theorem qBq(h:Hp)(z:Nat)(d s:AV):L2 (qli h z d s):=by
 unfold qli;cases d<;>dsimp only<;>try exact L2.no
 .simp_all[L2.b2,qhR,L2.ret]
 .exact L2.b2 (qhR _ _ _) λ_ _=>L1.b2 (zd _) λm=>L1.b2 (qdv _ _) λC=>L1.b2 (qrK _ _ _ _) λA=>L2.ret _ _
def qxy(h:Hp)(b z:Nat)(c:Bool)(v:AV)(h':Hp):L2 (λk:AV->Hp->Prop=>qlH h b z c (k v h')):=by
 cases c
 .exact Fs
 .exact L4.b2 (qfh h b) λe _ _ _=>L2.wh _ (L2.ret _ _)
def qqd(t:Tr AV)(b:Nat)(ps:List Nat){G:(AV->Hp->Prop)->Prop}(d:L2 G):L2 (λk=>jC t b ps (G k)):=by
 induction ps with
 | nil=>exact d
 | cons q ps z =>
  show L2 (λk=>evK t (.t q) (λy=>match y with | .ptr A _=>qn (not (Nat.beq A b)) (jC t b ps (G k)) | .pf _ _=>jC t b ps (G k)|_=>False))
  exact L1.b2 (qw t (.t q)) λy=>by cases y<;>dsimp only<;>first|exact L2.no|exact L2.wh _ z|exact z
def qzN(t:Tr AV)(ps:List Nat)(s:AV){G:(AV->Hp->Prop)->Prop}(z:L2 G):L2 (λk=>qcx t ps s (G k)):=by
 unfold qcx;cases s<;>dsimp only<;>first|exact L2.no|exact z|exact qqd _ _ _ z
def qyj(orc:Orc)(kd:Option IntKind)(i:AV){G:(AV->Hp->Prop)->Prop}(z:L2 G):L2 (λk=>qlJ orc kd i (G k)):=by
 unfold qlJ;cases i<;>dsimp only<;>try exact L2.no
 .cases kd<;>dsimp only
  all_goals simp_all[L2.no,L2.wh]
 .cases kd<;>dsimp only
  all_goals simp_all[L2.no]
 .cases kd<;>dsimp only
  all_goals simp_all[L1.b2,qhJ,L2.no]
def qq8(orc:Orc)(x y:AV):L1 (qe2 orc x y):=by
 unfold qe2;cases y<;>dsimp only<;>try exact L1.no
 .cases x<;>dsimp only<;>try exact L1.no
  exact L1.wh _ (xn _)
 .cases x<;>dsimp only<;>try exact L1.no
  .exact xn _
  simp_all[L1.b1,qhJ,qhS]
def qs9(orc:Orc)(i:AV):∀z,L1 (qcO orc i z)
 | []=>L1.ret _
 | e::z=>by
  show L1 (λk=>qe2 orc i e.1 (λr=>Bool.rec (motive:=λ_=>Prop) (qcO orc i z k) (k (some e.2)) r))
  exact L1.b1 (qq8 orc i e.1) λr=>L1.br r (qs9 orc i z) (L1.ret _)
def qAe(orc:Orc)(i v:AV):∀z,L1 (qhT orc i v z)
 | []=>L1.ret _
 | e::z=>by
  show L1 (λk=>qe2 orc i e.1 (λr=>Bool.rec (motive:=λ_=>Prop) (qhT orc i v z (λl=>k (e::l))) (k ((i,v)::z)) r))
  exact L1.b1 (qq8 orc i e.1) λr=>L1.br r (L1.b1 (qAe orc i v z) λl=>L1.ret _) (L1.ret _)
theorem qmT{z:List (AV×AV)}{p:Prop}:qeZ z p↔(∀e,z.head?=some e->e.1≠.undef/\∀r,e.1≠.lp r)/\p:=by
 unfold qeZ;cases z<;>grind
def qpz(h:Hp)(b:Nat):L1 (qip h b):=by
 unfold qip;refine λk z=>?_
 obtain⟨x,A,d⟩:=(Tr.getK_iff _ _ _).1 z;cases x<;>grind[qmT,Tr.getK_iff]
def qh6{h:Hp}{b:Nat}{k:List UInt8->Nat->Prop}:qop h b k↔∃a n,h.tr.get b=some (.map (xI a n))/\k a n:=by
 unfold qop;rw[Tr.getK_iff];constructor
 .rintro⟨x,d,z⟩;cases x with
  | cells=>exact Ad
  | dead=>exact Ad
  | map A =>
   dsimp only at z;split at z
   .exact⟨_,_,d,z⟩
   exact Ad
 .rintro⟨a,n,d,z⟩;exact⟨_,d,z⟩
def qB7(h:Hp)(b:Nat):L2 (qop h b):=λk A=>by
 obtain⟨a,n,d,C⟩:=qh6.1 A;exact⟨a,n,C,λD z=>qh6.2 ⟨a,n,d,z⟩⟩
def qmW{h:Hp}{b:Nat}{k:Nat->Prop}:qyf h b k↔∃r,h.tr.get b=some (.map (itM r))/\k r:=by
 unfold qyf;rw[Tr.getK_iff];constructor
 .rintro⟨x,z,h2⟩;cases x with
  | cells=>exact Fk
  | dead=>exact Fk
  | map d =>
   dsimp only at h2;split at h2
   .exact⟨_,z,h2⟩
   .exact Fk
 .rintro⟨r,z,h2⟩;exact⟨_,z,h2⟩
def qF4(h:Hp)(b:Nat):L1 (qyf h b):=λk A=>by
 obtain⟨r,d,C⟩:=qmW.1 A;exact⟨r,C,λD z=>qmW.2 ⟨r,d,z⟩⟩
def qwn(ok:Bool)(zero:AV)(v:Option AV):L1 (qik ok zero v):=by
 unfold qik;cases v<;>cases ok<;>exact L1.ret _
theorem qve(l:List (AV×AV))(k:Nat->Prop):qEd l k↔k l.length:=by
 have z:∀(l:List (AV×AV)) (n:Nat),(List.rec (motive:=λ_=>Nat->(Nat->Prop)->Prop) (λn k=>k n) (λ_ _ d n k=>qq (Nat.succ n) (λm=>d m k)) l n k:Prop)↔k (l.length+n):=by
  intro l
  induction l with
  | nil=>exact Ad
  | cons x A d =>
   grind[qy]
 exact z l 0
def qLi(z:List (AV×AV)):L1 (qEd z):=λk h=>by grind[qve]
def qKx(orc:Orc)(o:IOp)(t:Tr AV)(h:Hp):L2 (opK orc o t h):=by
 unfold opK;cases o<;>dsimp only
 case mov x=>exact L1.b2 (qw t x) λv=>L2.ret _ _
 case pick c x y=>exact L1.b2 (qw t c) λc=>L1.b2 (qhS c) λc=>L2.br _ (L1.b2 (qw t y) λv=>L2.ret _ _) (L1.b2 (qw t x) λv=>L2.ret _ _)
 case alloc z=>exact Eg
 case box x=>exact L1.b2 (qw t x) λv=>L2.wh _ (L2.b2 (qbb _ _) λb h'=>L2.ret _ _)
 case build z G=>exact L1.b2 (qjS t G z) λD=>L2.ret _ _
 case buildS n z G=>exact L1.b2 (qjm z n) λD=>L1.b2 (qjS t G D) λD=>L2.b2 (qbb _ _) λb h'=>L2.ret _ _
 case load1 x=>exact L1.b2 (qw t x) λp=>L1.b2 (qJ8 _ _) λv=>L2.ret _ _
 case loadN n x=>exact L1.b2 (qw t x) λp=>L1.b2 (qGc _ _ _) λv=>L2.ret _ _
 case store n x v=>exact L1.b2 (qw t x) λp=>L2.b2 (qoW p) λb o=>L1.b2 (qw t v) λv=>L2.wh _ (L1.b2 (qmZ _) λm=>L2.wh _ (L1.b2 (qrK _ _ _ _) λh'=>L2.ret _ _))
 case nilChk x=>exact L1.b2 (qw t x) λv=>by cases v<;>dsimp only<;>first|exact L2.no|exact L2.ret _ _
 case bin op x y=>exact L1.b2 (qw t x) λx=>L1.b2 (qw t y) λy=>L1.b2 (qwy orc op x y) λv=>L2.ret _ _
 case eqB H x y=>exact L1.b2 (qw t x) λx=>L1.b2 (qw t y) λy=>L1.b2 (qhS x) λx=>L1.b2 (qhS y) λy=>L1.b2 (xn _) λr=>L2.ret _ _
 case eqN H q x=>exact L1.b2 (qw t x) λx=>L1.b2 (qq6 q x) λr=>L1.b2 (xn _) λr=>L2.ret _ _
 case un op x=>exact L1.b2 (qw t x) λx=>L1.b2 (quf op x) λv=>L2.ret _ _
 case cvInt q x=>exact L1.b2 (qw t x) λx=>L1.b2 (qDZ orc q x) λr=>L2.ret _ _
 case s2b x=>exact L1.b2 (qw t x) λx=>by cases x<;>dsimp only<;>first|exact L2.no|exact L1.b2 (zd _) λn=>L2.b2 (qbb _ _) λb h'=>L2.ret _ _
 case b2s x=>exact L1.b2 (qw t x) λx=>by cases x<;>dsimp only<;>first|exact L2.no|exact L2.ret _ _|exact L1.b2 (qjd _ _ _ _) λD=>L1.b2 (qjq D) λl=>L2.ret _ _|exact L1.b2 (qdv _ _) λD=>L1.b2 (qjq D) λl=>L2.ret _ _
 case fAddr J x=>exact L1.b2 (qw t x) λp=>L1.b2 (qpB _ _) λv=>L2.ret _ _
 case fld J n x =>
  refine L1.b2 (qw t x) λx=>?_
  cases x<;>dsimp only<;>try exact L2.no
  cases n
  .exact L1.b2 (qji _ _) λv=>L2.ret _ _
  .exact L1.b2 (qf0 _ _) λl=>L1.b2 (qdv _ _) λl=>L2.ret _ _
 case iAddrA len A x i=>exact L1.b2 (qw t x) λp=>L1.b2 (qw t i) λi=>L1.b2 (qfP i) λi=>L2.wh _ (L1.b2 (qpB _ _) λv=>L2.ret _ _)
 case iAddrS A x i =>
  refine L1.b2 (qw t x) λx=>?_
  cases x<;>dsimp only<;>try exact L2.no
  all_goals exact L1.b2 (qw t i) λi=>L1.b2 (qfP i) λi=>L2.wh _ (L1.b2 (zd _) λo'=>L2.ret _ _)
 case idxA len A agg x i =>
  refine L1.b2 (qw t x) λx=>?_
  cases x<;>dsimp only<;>try exact L2.no
  exact L1.b2 (qw t i) λi=>L1.b2 (qfP i) λi=>L2.wh _ (L1.b2 (zd _) λo=>L2.br _ (L1.b2 (qji _ _) λv=>L2.ret _ _) (L1.b2 (qf0 _ _) λl=>L1.b2 (qdv _ _) λl=>L2.ret _ _))
 case idxS x i =>
  refine L1.b2 (qw t x) λx=>?_
  cases x<;>dsimp only<;>try exact L2.no
  rename_i s;refine L1.b2 (qw t i) λi=>L1.b2 (qfP i) λi=>?_
  cases s[i]?
  .exact L2.no
  .exact Fs
 case slcS A x lo hi E =>
  refine L1.b2 (qw t x) λx=>L1.b2 (qe4 t lo) λlo=>L1.b2 (qe4 t hi) λhi=>L1.b2 (qe4 t E) λE=>?_
  cases x<;>dsimp only<;>try exact L2.no
  .exact Ch
  .exact Dy
  .exact L3.b2 (qbA _ _ _ _ _) λl h' m=>L2.br _ (L1.b2 (qf0 _ _) λN=>L1.b2 (zd _) λlen'=>L1.b2 (qdv _ _) λl2=>L2.ret _ _) (L2.ret _ _)
  .exact Ch
  .rename_i b n;cases E with
   | some _ =>
    cases n with
    | zero=>exact Ch
    | succ n=>exact L3.b2 (qbA _ _ _ _ _) λl h' m=>L1.b2 (zd _) λo'=>L1.b2 (zd _) λlen'=>L1.b2 (zd _) λcap'=>L2.ret _ _
   | none =>
    cases n with
    | zero=>exact Ch
    | succ n=>exact Dy
 case slcStr x lo hi =>
  refine L1.b2 (qw t x) λx=>L1.b2 (qe4 t lo) λlo=>L1.b2 (qe4 t hi) λhi=>?_
  cases x<;>dsimp only<;>try exact L2.no
  exact Ch
 case slcA len A x lo hi E =>
  exact L1.b2 (qw t x) λp=>L2.b2 (qoW p) λb o=>L1.b2 (qe4 t lo) λlo=>L1.b2 (qe4 t hi) λhi=>L1.b2 (qe4 t E) λE =>
   L3.b2 (qbA _ _ _ _ _) λl h' m=>L1.b2 (zd _) λo'=>L1.b2 (zd _) λlen'=>L1.b2 (zd _) λcap'=>L2.ret _ _
 case ext x i =>
  refine L1.b2 (qw t x) λx=>?_
  cases x<;>dsimp only<;>try exact L2.no
  exact L1.b2 (qji _ _) λv=>L2.ret _ _
 case mkF f a c=>exact L1.b2 (qg7 t a) λa=>L1.b2 (qg7 t c) λc=>L2.ret _ _
 case mkS A C z len cap=>exact L1.b2 (qw t len) λlen=>L1.b2 (qw t cap) λcap=>L1.b2 (qfP len) λl=>L1.b2 (qfP cap) λc=>L2.wh _ (L2.wh _ (L2.wh _ (L1.b2 (qjm z c) λD=>L2.b2 (qbb _ _) λb h'=>L2.ret _ _)))
 case len L x =>
  refine L1.b2 (qw t x) λx=>?_
  cases x<;>dsimp only<;>try exact L2.no
  .exact L2.br _ L2.no (L1.b2 (zd _) λn=>L2.ret _ _)
  .exact Cv
  .exact Cv
  .exact L2.br _ L2.no (L1.b2 (qhJ _) λv=>L2.ret _ _)
  .exact Cv
  .exact Cv
  .exact Cv
  .exact Cv
 case app A C c s x=>exact L1.b2 (qw t s) λs=>L1.b2 (qw t x) (by grind[qr2])
 case copy A d s=>exact L1.b2 (qw t d) λd=>L1.b2 (qw t s) (by grind[qBq])
 case max x y=>exact Dr
 case clear z x =>
  refine L1.b2 (qw t x) λx=>?_
  cases x<;>dsimp only<;>try exact L2.no
  .exact Fs
  .rename_i b o n _ _;cases n
   .exact Fs
   .rename_i n;show L2 (λk=>qkw z (n+1) (λD=>stK h b o D (λh'=>k (AV.tup []) h')))
    exact L1.b2 (qjm z (n+1)) λD=>L1.b2 (qrK _ _ _ _) λh'=>L2.ret _ _
 case mkM=>exact Eg
 case lookM kd ok z x i =>
  refine L1.b2 (qw t x) λx=>L1.b2 (qw t i) λi=>qyj orc kd i ?_
  cases x<;>dsimp only<;>try exact L2.no
  .exact L1.b2 (qwn _ _ _) λv=>L2.ret _ _
  .exact L1.b2 (qpz _ _) λF=>L1.b2 (qs9 _ _ _) λv=>L1.b2 (qwn _ _ _) λv=>L2.ret _ _
 case updM kd x i v =>
  refine L1.b2 (qw t x) λx=>L1.b2 (qw t i) λi=>L1.b2 (qw t v) λv=>qyj orc kd i ?_
  cases x<;>dsimp only<;>try exact L2.no
  exact L1.b2 (qpz _ _) λF=>L1.b2 (qAe _ _ _ _) λM=>L1.b2 (qe5 _ _ _) λh'=>L2.ret _ _
 case min x y=>exact Dr
 case cap x =>
  refine L1.b2 (qw t x) λx=>?_
  cases x<;>dsimp only<;>try exact L2.no
  .exact Fs
  .exact Cv
  .exact Fs
 case rangeS x =>
  refine L1.b2 (qw t x) λx=>?_
  cases x<;>dsimp only<;>try exact L2.no
  exact Eg
 case cvR x=>exact L1.b2 (qw t x) λx=>by cases x<;>dsimp only<;>first|exact L2.no|exact L2.ret _ _
 case rngE x =>
  refine L1.b2 (qw t x) λx=>?_
  cases x<;>dsimp only<;>try exact L2.no
  refine L1.b2 (qpz _ _) λF=>?_
  cases F<;>dsimp only
  .exact Eg
  .exact L2.no
 case nxtE x =>
  refine L1.b2 (qw t x) λx=>L2.b2 (qoW x) λb o=>L2.wh _ (L1.b2 (qF4 _ _) λr=>L1.b2 (qpz _ _) λF=>?_)
  cases F<;>dsimp only
  .exact Fs
  .exact L2.no
 case nextS x =>
  refine L1.b2 (qw t x) λx=>L2.b2 (qoW x) λb o=>L2.wh _ (L2.b2 (qB7 _ _) λa n=>?_)
  cases a[n]?<;>dsimp only
  .exact Fs
  .exact L2.br _ (L1.b2 (qe5 _ _ _) λh'=>L2.ret _ _) (L1.b2 (zd _) λm=>L1.b2 (qe5 _ _ _) λh'=>L2.ret _ _)
 case storeD n x v G=>exact L1.b2 (qw t x) λp=>L2.b2 (qoW p) λb o=>qqd _ _ _ (L1.b2 (qw t v) λv=>L2.wh _ (L1.b2 (qmZ _) λm=>L2.wh _ (L1.b2 (qrK _ _ _ _) λh'=>L2.ret _ _)))
 case appD A C s x G=>exact L1.b2 (qw t s) λs=>L1.b2 (qw t x) λx=>qzN _ _ _ (qr2 _ _ _ _ _ _)
 case appZ A C z s x =>
  refine L1.b2 (qw t s) λs=>L1.b2 (qw t x) λx=>L1.b2 (qfP x) λn=>?_
  cases s<;>dsimp only<;>try exact L2.no
  .exact L2.wh _ (L2.wh _ (L2.wh _ (L1.b2 (qjm z n) λnew=>L2.b2 (qbb _ _) λb h'=>L2.ret _ _)))
  rename_i b o len cap I;exact L2.wh _ (L2.wh _ (L2.wh _ (L2.wh _ (L1.b2 (qjd _ _ _ _) λK=>L1.b2 (qjm z n) λnew=>L1.b2 (qpf K new) λD=>L2.b2 (qbb _ _) λb h'=>L2.ret _ _))))
 all_goals simp_all[L1.b2,qw,qr2,L2.no]
def LC(C:zA):Prop:=∀f z h,L2 (C f z h)
def qsN:∀l n t,L1 (qqg l n t)
 | [],_,t=>L1.ret t
 | v::l,n,t=>by
  show L1 (λk=>t.setK n v (λz=>qq (Nat.succ n) (λd=>qqg l d z k)))
  exact L1.b1 (qpS t n v) λz=>L1.b1 (zd _) λd=>qsN l d z
def qnj(t:Tr AV)(h:Hp):∀z,L1 (qaW t h z)
 | []=>L1.ret _
 | .tmp n::z=>by
  show L1 (λk=>t.getK n (λv=>qaW t h z (λd=>k (v::d))))
  exact L1.b1 (qmK t n) λv=>L1.b1 (qnj t h z) λd=>L1.ret _
 | .cell n A agg::z=>by
  show L1 (λk=>t.getK n (λp=>unP p (λb o=>Bool.rec (motive:=λ_=>Prop) (ldK h b o (λv=>qaW t h z (λd=>k (v::d)))) (qb4 h b o A (λC=>qaW t h z (λd=>k (.agg C::d)))) agg)))
  exact L1.b1 (qmK t n) λp=>L2.b1 (qoW p) λb o=>L1.br _ (L1.b1 (qEb _ _ _) λv=>L1.b1 (qnj t h z) λd=>L1.ret _) (L1.b1 (qjd _ _ _ _) λC=>L1.b1 (qnj t h z) λd=>L1.ret _)
theorem qzF{F:Hp->(AV->Hp->Prop)->Prop}(L:∀h,L2 (F h))(h:Hp):L2 (qhO F h):=by
 cases h with
 | mk E D tr =>
  intro k G;obtain⟨v,C,I,J⟩:=L ⟨E,E,tr⟩ _ G;cases C with
  | mk d K z=>exact⟨v,⟨d,D,z⟩,I,λH A=>J (λv C=>Hp.rec (motive:=λ_=>Prop) (λd _ z=>H v ⟨d,D,z⟩) C) A⟩
theorem qt2(orc:Orc){C:zA}(hi:LC C)(r:RK)(t:Tr AV)(h:Hp):L2 (qcZ orc C r t h):=by
 cases r with
 | op o=>exact qKx orc o t h
 | callF f args=>exact L1.b2 (qg7 t args) λvs=>hi (Nat.succ f) vs h
 | callV x args =>
  exact El
 | callW f args=>exact L1.b2 (qg7 t args) λvs=>hi (Nat.succ f) vs h
 | callVW x args =>
  exact El
def qzK(orc:Orc)(draw:Bool){C:zA}(hi:LC C)(r:RK)(t:Tr AV)(h:Hp):L2 (qjo orc draw C r t h) :=
 L2.br _ (by grind[qt2]) (by grind[qzF,qt2])
def qqU(t:Tr AV)(g:Option (Nat×Bool)):L1 (qaO t g):=by
 cases g with
 | none=>exact L1.ret _
 | some g =>
  show L1 (λk=>t.getK g.1 (λv=>match v with
   | .b x=>qX (x==g.2) k
   | .tup _=>k false
   | _=>False))
  refine L1.b1 (qmK t g.1) λv=>?_
  cases v<;>dsimp only<;>first|exact L1.no|exact xn _|exact L1.ret _
def qpo(t:Tr AV)(d:Option Nat)(v:AV):L1 (wu t d v):=by
 cases d
 .exact L1.ret _
 .exact qpS _ _ _
def qgh(orc:Orc)(draw:Bool){C:zA}(hi:LC C):∀(z:List ROp) (t:Tr AV) (h:Hp),L2 (λQ=>qel orc draw C z Q t h)
 | [],t,h=>L2.ret t h
 | ⟨d,k,g⟩::z,t,h=>by
  refine L1.b2 (qqU t g) λD=>L2.br D (L1.b2 (qpo t d _) λA=>qgh orc draw hi z A h) (L2.b2 (qzK orc draw hi k t h) λv E=>L1.b2 (qpo t d v) λA=>qgh orc draw hi z A E)
structure Loc where
 blk:Nat
 off:Nat
 size:Nat
 esz:Nat
structure Fz where
 φ:Nat->Option (Array Value)
 ok:∀k a,tab k=some a->φ k=some a
instance:Coe Fz (Nat->Option (Array Value)):=⟨Fz.φ⟩
instance:CoeFun Fz (λ_=>Nat->Option (Array Value)):=⟨Fz.φ⟩
structure Ren where
 loc:Nat->Option Loc
 frz:Fz
 n:Nat
instance:CoeFun Ren (λ_=>Nat->Option Loc):=⟨Ren.loc⟩
def Ren.le(Z Z':Ren):Prop:=(∀b L,Z b=some L->Z' b=some L)/\(∀k a,Z.frz k=some a->Z'.frz k=some a)/\Z.n<=Z'.n
def Ren.le_refl(Z:Ren):Z.le Z:=⟨λ_ _ h=>h,λ_ _ h=>h,zzL _⟩
def Ren.le_trans{a b c:Ren}(h:a.le b)(h':b.le c):a.le c:=⟨λx L z=>h'.1 x L (h.1 x L z),λk y d=>h'.2.1 k y (h.2.1 k y d),zzg h.2.2 h'.2.2⟩
mutual
inductive CR (σ:Nat->Value) (φ:Nat->Option (Array Value)):AV->Value->Prop where
 | undef (v:Value):CR σ φ .undef v
 | b (x:Bool):CR σ φ (.b x) (.bool x)
 | i (k:IntKind) (n:Int):CR σ φ (.i k n) (.int k n)
 | s (x:List UInt8):CR σ φ (.s x) (.string ⟨x.toArray⟩)
 | nilp:CR σ φ .nilp (.pointer none)
 | nils:CR σ φ .nils (.slice none 0 0)
 | nilf:CR σ φ .nilf .nilFunc
 | fn (f:Nat) (first cap:List AV) (first' cap':Array Value) (h1:CRs σ φ first first'.toList) (h2:CRs σ φ cap cap'.toList):CR σ φ (.fn f first cap) (.func (.func f) first' cap')
 | nili:CR σ φ .nili .nilIface
 | ifc (t:Nat) (v:AV) (v':Value) (h:CR σ φ v v'):CR σ φ (.ifc t v) (.iface t v')
 | agg (cs:List AV) (cs':Array Value) (h:CRs σ φ cs cs'.toList):CR σ φ (.agg cs) (.agg cs')
 | tup (cs:List AV) (cs':Array Value) (h:CRs σ φ cs cs'.toList):CR σ φ (.tup cs) (.tuple cs')
 | nilm:CR σ φ .nilm (.map none)
 | sym (j:Nat):CR σ φ (.sym j) (σ j)
 | fz (n off c:Nat) (cs:List AV) (k:Nat) (arr:Array Value) (hn:n<=c) (h:φ k=some arr) (hs:CRs σ φ cs ((arr.toList.drop off).take cs.length)):CR σ φ (.fz n cs) (.slice (some ⟨k,off,none⟩) n c)
 | fz0 (a:Option Addr):CR σ φ (.fz 0 []) (.slice a 0 0)
 | pf (off base:Nat) (cs:List AV) (k:Nat) (arr:Array Value) (h:φ k=some arr) (hs:CRs σ φ cs ((arr.toList.drop base).take cs.length)):CR σ φ (.pf cs off) (.pointer (some ⟨k,base+off,none⟩))
 | e0 (a:Option Addr):CR σ φ .e0 (.slice a 0 0)
 | nz (a:Addr) (c:Nat):CR σ φ .nz (.slice (some a) 0 c)
inductive CRs (σ:Nat->Value) (φ:Nat->Option (Array Value)):List AV->List Value->Prop where
 | nil:CRs σ φ [] []
 | cons (v:AV) (vs:List AV) (v':Value) (vs':List Value) (h:CR σ φ v v') (hs:CRs σ φ vs vs'):CRs σ φ (v::vs) (v'::vs')
end
mutual
theorem CR.mono{σ:Nat->Value}{φ φ':Nat->Option (Array Value)}(hφ:∀k a,φ k=some a->φ' k=some a):∀{a:AV}{v:Value},CR σ φ a v->CR σ φ' a v
 | _,_,.undef v=>.undef v
 | _,_,.b x=>.b x
 | _,_,.i k n=>.i k n
 | _,_,.s x=>.s x
 | _,_,.nilp=>.nilp
 | _,_,.nils=>.nils
 | _,_,.nilf=>.nilf
 | _,_,.fn f first cap first' cap' h1 h2=>.fn f first cap first' cap' (h1.mono hφ) (h2.mono hφ)
 | _,_,.nili=>.nili
 | _,_,.ifc t v v' h=>.ifc t v v' (h.mono hφ)
 | _,_,.agg cs cs' h=>.agg cs cs' (h.mono hφ)
 | _,_,.tup cs cs' h=>.tup cs cs' (h.mono hφ)
 | _,_,.nilm=>.nilm
 | _,_,.sym j=>.sym j
 | _,_,.fz n off c cs k arr hn h hs=>.fz n off c cs k arr hn (hφ k arr h) (hs.mono hφ)
 | _,_,.fz0 a=>.fz0 a
 | _,_,.pf off base cs k arr h hs=>.pf off base cs k arr (hφ k arr h) (hs.mono hφ)
 | _,_,.e0 a=>.e0 a
 | _,_,.nz a c=>.nz a c
theorem CRs.mono{σ:Nat->Value}{φ φ':Nat->Option (Array Value)}(hφ:∀k a,φ k=some a->φ' k=some a):∀{a:List AV}{v:List Value},CRs σ φ a v->CRs σ φ' a v
 | _,_,.nil=>.nil
 | _,_,.cons v vs v' vs' h hs=>.cons v vs v' vs' (h.mono hφ) (hs.mono hφ)
end
def CRs.length{σ:Nat->Value}{φ:Nat->Option (Array Value)}{zy:List AV}{vs:List Value}(h:CRs σ φ zy vs):zy.length=vs.length:=D7
mutual
inductive VR (σ:Nat->Value) (Z:Ren):AV->Value->Prop where
 | undef (v:Value):VR σ Z .undef v
 | b (x:Bool):VR σ Z (.b x) (.bool x)
 | i (k:IntKind) (n:Int):VR σ Z (.i k n) (.int k n)
 | s (x:List UInt8):VR σ Z (.s x) (.string ⟨x.toArray⟩)
 | nilp:VR σ Z .nilp (.pointer none)
 | ptr (b o:Nat) (L:Loc) (h:Z b=some L):VR σ Z (.ptr b o) (.pointer (some ⟨L.blk,L.off+o,none⟩))
 | nils:VR σ Z .nils (.slice none 0 0)
 | sl (b o len cap c:Nat) (loose:Bool) (L:Loc) (h:Z b=some L)
   (hc:c=cap\/(loose=true/\cap<=c/\L.off+o+c*L.esz<=L.size)):VR σ Z (.sl b o len cap loose) (.slice (some ⟨L.blk,L.off+o,none⟩) len c)
 | slz (b o x:Nat) (l:Bool) (L:Loc) (h:Z b=some L):VR σ Z (.sl b o 0 0 l) (.slice (some ⟨L.blk,x,none⟩) 0 0)
 | nilf:VR σ Z .nilf .nilFunc
 | fn (f:Nat) (first cap:List AV) (first' cap':Array Value) (h1:VRs σ Z first first'.toList) (h2:VRs σ Z cap cap'.toList):VR σ Z (.fn f first cap) (.func (.func f) first' cap')
 | nili:VR σ Z .nili .nilIface
 | ifc (t:Nat) (v:AV) (v':Value) (h:VR σ Z v v'):VR σ Z (.ifc t v) (.iface t v')
 | agg (cs:List AV) (cs':Array Value) (h:VRs σ Z cs cs'.toList):VR σ Z (.agg cs) (.agg cs')
 | tup (cs:List AV) (cs':Array Value) (h:VRs σ Z cs cs'.toList):VR σ Z (.tup cs) (.tuple cs')
 | nilm:VR σ Z .nilm (.map none)
 | map (b:Nat) (L:Loc) (h:Z b=some L) (h0:L.off=0):VR σ Z (.map b) (.map (some L.blk))
 | sym (j:Nat):VR σ Z (.sym j) (σ j)
 | fz (n off c:Nat) (cs:List AV) (k:Nat) (arr:Array Value) (hn:n<=c) (h:Z.frz k=some arr) (hs:CRs σ Z.frz cs ((arr.toList.drop off).take cs.length)):VR σ Z (.fz n cs) (.slice (some ⟨k,off,none⟩) n c)
 | fz0 (a:Option Addr):VR σ Z (.fz 0 []) (.slice a 0 0)
 | pf (off base:Nat) (cs:List AV) (k:Nat) (arr:Array Value) (h:Z.frz k=some arr) (hs:CRs σ Z.frz cs ((arr.toList.drop base).take cs.length)):VR σ Z (.pf cs off) (.pointer (some ⟨k,base+off,none⟩))
 | e0 (a:Option Addr):VR σ Z .e0 (.slice a 0 0)
 | nz (a:Addr) (c:Nat):VR σ Z .nz (.slice (some a) 0 c)
 | own0 (b:Nat) (a:Option Addr) (hb:b<Z.n):VR σ Z (.own b 0) (.slice a 0 0)
 | own (b n c:Nat) (L:Loc) (h:Z b=some L) (hn:n<=c) (hc:L.off+c*L.esz<=L.size):VR σ Z (.own b n) (.slice (some ⟨L.blk,L.off,none⟩) n c)
 | yl (b:Nat) (L:Loc) (h:Z b=some L):VR σ Z (.yl b) (.func (.yield L.blk) #[] #[])
inductive VRs (σ:Nat->Value) (Z:Ren):List AV->List Value->Prop where
 | nil:VRs σ Z [] []
 | cons (v:AV) (vs:List AV) (v':Value) (vs':List Value) (h:VR σ Z v v') (hs:VRs σ Z vs vs'):VRs σ Z (v::vs) (v'::vs')
end
variable {σ:Nat->Value}{Z Z':Ren}
mutual
theorem VR.mono(hZ:Z.le Z'):∀{a:AV}{v:Value},VR σ Z a v->VR σ Z' a v
 | _,_,.undef v=>.undef v
 | _,_,.b x=>.b x
 | _,_,.i k n=>.i k n
 | _,_,.s x=>.s x
 | _,_,.nilp=>.nilp
 | _,_,.ptr b o L h=>.ptr b o L (hZ.1 b L h)
 | _,_,.nils=>.nils
 | _,_,.sl b o len cap c loose L h hc=>.sl b o len cap c loose L (hZ.1 b L h) hc
 | _,_,.slz b o x l L h=>.slz b o x l L (hZ.1 b L h)
 | _,_,.nilf=>.nilf
 | _,_,.fn f first cap first' cap' h1 h2=>.fn f first cap first' cap' (h1.mono hZ) (h2.mono hZ)
 | _,_,.nili=>.nili
 | _,_,.ifc t v v' h=>.ifc t v v' (h.mono hZ)
 | _,_,.agg cs cs' h=>.agg cs cs' (h.mono hZ)
 | _,_,.tup cs cs' h=>.tup cs cs' (h.mono hZ)
 | _,_,.nilm=>.nilm
 | _,_,.map b L h h0=>.map b L (hZ.1 b L h) h0
 | _,_,.sym j=>.sym j
 | _,_,.fz n off c cs k arr hn h hs=>.fz n off c cs k arr hn (hZ.2.1 k arr h) (hs.mono hZ.2.1)
 | _,_,.fz0 a=>.fz0 a
 | _,_,.pf off base cs k arr h hs=>.pf off base cs k arr (hZ.2.1 k arr h) (hs.mono hZ.2.1)
 | _,_,.e0 a=>.e0 a
 | _,_,.nz a c=>.nz a c
 | _,_,.own0 b a hb=>.own0 b a (zzh hb hZ.2.2)
 | _,_,.own b n c L h hn hc=>.own b n c L (hZ.1 b L h) hn hc
 | _,_,.yl b L h=>.yl b L (hZ.1 b L h)
theorem VRs.mono(hZ:Z.le Z'):∀{a:List AV}{v:List Value},VRs σ Z a v->VRs σ Z' a v
 | _,_,.nil=>.nil
 | _,_,.cons v vs v' vs' h hs=>.cons v vs v' vs' (h.mono hZ) (hs.mono hZ)
end
def VRs.length{zy:List AV}{vs:List Value}(h:VRs σ Z zy vs):zy.length=vs.length:=D7
theorem VRs.get{zy:List AV}{vs:List Value}(h:VRs σ Z zy vs){j:Nat}{a:AV}(z:zy[j]?=some a):∃v,vs[j]?=some v/\VR σ Z a v:=by
 induction zy generalizing vs j with
 | nil=>exact Ah
 | cons x A d =>
  cases h<;>grind
theorem VRs.of_get{zy:List AV}{vs:List Value}(E:zy.length=vs.length)(h:∀(j:Nat) a,zy[j]?=some a->∃v,vs[j]?=some v/\VR σ Z a v):VRs σ Z zy vs:=by
 induction zy generalizing vs with
 | nil => cases vs with
          | nil=>exact .nil
          | cons=>exact Ah
 | cons x D A =>
  cases vs with
  | nil=>exact Ah
  | cons v vs =>
   obtain⟨v',z,d⟩:=h 0 x rfl;simp at z;subst z;exact .cons _ _ _ _ d (A Ad λj a C=>by simpa using h (j+1) a Ad)
def VRs.append{zy z:List AV}{vs us:List Value}(h:VRs σ Z zy vs)(h':VRs σ Z z us):VRs σ Z (zy++z) (vs++us):=by
 induction zy generalizing vs with
 | nil=>cases h;exact h'
 | cons a zy d=>cases h with|cons _ _ _ _ h A=>exact .cons _ _ _ _ h (d A)
def VRs.take{zy:List AV}{vs:List Value}(h:VRs σ Z zy vs)(n:Nat):VRs σ Z (zy.take n) (vs.take n):=by
 induction zy generalizing vs n with
 | nil=>cases h;exact Fx
 | cons a zy z => cases h with | cons _ _ _ _ h d => cases n with
                                                       | zero=>exact Ah
                                                       | succ n=>exact .cons _ _ _ _ h (z d n)
def VRs.drop{zy:List AV}{vs:List Value}(h:VRs σ Z zy vs)(n:Nat):VRs σ Z (zy.drop n) (vs.drop n):=by
 induction zy generalizing vs n with
 | nil=>cases h;exact Fx
 | cons a zy d => cases h with | cons _ _ _ _ h z => cases n with
                                                       | zero=>exact .cons _ _ _ _ h z
                                                       | succ n=>exact Ad
mutual
theorem CR.vr:∀{a:AV}{v:Value},CR σ Z.frz a v->VR σ Z a v
 | _,_,.undef v=>.undef v
 | _,_,.b x=>.b x
 | _,_,.i k n=>.i k n
 | _,_,.s x=>.s x
 | _,_,.nilp=>.nilp
 | _,_,.nils=>.nils
 | _,_,.nilf=>.nilf
 | _,_,.fn f first cap first' cap' h1 h2=>.fn f first cap first' cap' h1.vr h2.vr
 | _,_,.nili=>.nili
 | _,_,.ifc t v v' h=>.ifc t v v' h.vr
 | _,_,.agg cs cs' h=>.agg cs cs' h.vr
 | _,_,.tup cs cs' h=>.tup cs cs' h.vr
 | _,_,.nilm=>.nilm
 | _,_,.sym j=>.sym j
 | _,_,.fz n off c cs k arr hn h hs=>.fz n off c cs k arr hn h hs
 | _,_,.fz0 a=>.fz0 a
 | _,_,.pf off base cs k arr h hs=>.pf off base cs k arr h hs
 | _,_,.e0 a=>.e0 a
 | _,_,.nz a c=>.nz a c
theorem CRs.vr:∀{a:List AV}{v:List Value},CRs σ Z.frz a v->VRs σ Z a v
 | _,_,.nil=>.nil
 | _,_,.cons v vs v' vs' h hs=>.cons v vs v' vs' h.vr hs.vr
end
theorem CRs.get{φ:Nat->Option (Array Value)}{zy:List AV}{vs:List Value}(h:CRs σ φ zy vs){j:Nat}{a:AV}(z:zy[j]?=some a):∃v,vs[j]?=some v/\CR σ φ a v:=by
 induction zy generalizing vs j with
 | nil=>exact Ah
 | cons x A d =>
  cases h<;>grind
def CRs.take{φ:Nat->Option (Array Value)}{zy:List AV}{vs:List Value}(h:CRs σ φ zy vs)(n:Nat):CRs σ φ (zy.take n) (vs.take n):=by
 induction zy generalizing vs n with
 | nil=>cases h;exact Fx
 | cons a zy z => cases h with | cons _ _ _ _ h d => cases n with
                                                       | zero=>exact Ah
                                                       | succ n=>exact .cons _ _ _ _ h (z d n)
def CRs.drop{φ:Nat->Option (Array Value)}{zy:List AV}{vs:List Value}(h:CRs σ φ zy vs)(n:Nat):CRs σ φ (zy.drop n) (vs.drop n):=by
 induction zy generalizing vs n with
 | nil=>cases h;exact Fx
 | cons a zy d => cases h with | cons _ _ _ _ h z => cases n with
                                                       | zero=>exact .cons _ _ _ _ h z
                                                       | succ n=>exact Ad
def qbj(σ:Nat->Value)(Z:Ren)(z:List (AV×AV))(vs:List MapEntry):Prop :=
 z.length=vs.length/\∀(j:Nat) (e:AV×AV),z[j]?=some e->∃v:MapEntry,vs[j]?=some v/\VR σ Z e.1 v.key/\VR σ Z e.2 v.val
def qrV(z:List (AV×AV)):Prop:=∀e,z.head?=some e->e.1≠.undef/\∀r,e.1≠.lp r
class Cur where
 ok:Nat->Loop->Prop
 st:∀{j:Nat}{r:Loop}(s:LoopState) (p:Option Code),ok j r->ok j { r with state:=s,pending:=p }
variable [Cur]
def qcc(r r':Loop):Prop:=(r'=r/\∀j,r.assign≠.goto j)\/∃j,r.assign = .goto j/\Cur.ok j r'/\r'.state=r.state/\r'.pending=r.pending
def qcc.state{r r':Loop}(h:qcc r r'):r'.state=r.state:=by
 rcases h with⟨rfl,_⟩|⟨_,_,_,h,_⟩
 all_goals grind
def qcc.pending{r r':Loop}(h:qcc r r'):r'.pending=r.pending:=by
 rcases h with⟨rfl,_⟩|⟨_,_,_,_,h⟩
 all_goals grind
def qcc.set{r r':Loop}(h:qcc r r')(s:LoopState)(p:Option Code):qcc { r with state:=s,pending:=p } { r' with state:=s,pending:=p }:=by
 rcases h with⟨rfl,h0⟩|⟨j,h1,h2,_,_⟩
 .exact .inl ⟨rfl,h0⟩
 .exact .inr (by grind[Cur.st])
def qbw(σ:Nat->Value)(Z:Ren)(z:List (AV×AV))(o:Obj):Prop :=
 (qrV z/\∃C A,o = .map C A/\qbj σ Z z C.toList)\/(∃a n,z=xI a n/\o = .stringIter ⟨a.toArray⟩ n) \/
 (∃r d D,z=zu r D/\o = .loop d/\qcc r d/\∀p ∈ D,p.1<d.tmps.size/\VR σ Z p.2 (d.tmps.getD p.1 undef))\/∃r m s l,z=itM r/\VR σ Z (.map r) (.map (some m))/\o = .mapIter (some m) s #[] l
theorem qbw.mono(z:Z.le Z'){d:List (AV×AV)}{o:Obj}(h:qbw σ Z d o):qbw σ Z' d o:=by
 rcases h with⟨h0,vs,clk,h1,h2,h3⟩|h|⟨r,r',ts,h1,h2,h4,h3⟩|⟨r,m,s,l,h1,h2,h3⟩
 .exact .inl ⟨h0,vs,clk,h1,h2,λj e C=>let ⟨v,a,b,c⟩:=h3 j e C;⟨v,a,b.mono z,c.mono z⟩⟩
 .exact .inr (.inl h)
 .exact .inr (.inr (.inl ⟨r,r',ts,h1,h2,h4,λp A=>⟨(h3 p A).1,(h3 p A).2.mono z⟩⟩))
 .exact .inr (.inr (.inr ⟨r,m,s,l,h1,h2.mono z,h3⟩))
def qbw.map{d:List (AV×AV)}{o:Obj}(h:qbw σ Z d o)(z:qrV d):∃C A,o = .map C A/\qbj σ Z d C.toList:=by
 rcases h with⟨_,h⟩|⟨a,n,rfl,_⟩|⟨r,_,ts,rfl,_⟩|⟨r,_,_,_,rfl,_⟩
 .exact h
 .exact absurd rfl (z _ rfl).1
 .exact absurd rfl ((z _ rfl).2 r)
 .exact absurd rfl (z _ rfl).1
def qbw.iter{a:List UInt8}{n:Nat}{o:Obj}(h:qbw σ Z (xI a n) o):o = .stringIter ⟨a.toArray⟩ n:=by
 rcases h with⟨h,_⟩|⟨a',n',z,h2⟩|⟨r,_,ts,z,_⟩|⟨r,_,_,_,z,_⟩
 rotate_left 3
 .simp[xI,itM]at z
 .exact absurd rfl (h _ rfl).1
 .simp only[xI,List.cons.injEq,Prod.mk.injEq,AV.s.injEq,AV.i.injEq,true_and,and_true]at z;obtain⟨rfl,z⟩:=z;have:n=n':=Int.ofNat.inj z;subst this;exact h2
 .simp[xI,zu]at z
omit [Cur] in
theorem qrz{r r':Loop}{ts z:List (Nat×AV)}(h:zu r ts=zu r' z):r=r'/\ts=z:=by
 simp only[zu,List.cons.injEq,Prod.mk.injEq,AV.lp.injEq,and_true]at h;refine⟨h.1,?_⟩;have A:=h.2;clear h
 induction ts generalizing z with
 | nil=>exact Ad
 | cons p ts d =>
  cases z<;>grind
def qbw.rec'{r:Loop}{ts:List (Nat×AV)}{o:Obj}(h:qbw σ Z (zu r ts) o):∃z,o = .loop z/\qcc r z/\∀p ∈ ts,p.1<z.tmps.size/\VR σ Z p.2 (z.tmps.getD p.1 undef):=by
 rcases h with⟨h,_⟩|⟨a',n',h1,h2⟩|⟨z,r'',ts',h1,h2,h4,h3⟩|⟨z,_,_,_,h1,_⟩
 rotate_left 3
 .simp[zu,itM]at h1
 .exact absurd rfl ((h _ rfl).2 r)
 .simp[xI,zu]at h1
 grind[qrz]
def qbw.notCells{z:List (AV×AV)}{c:Array Value}{ty:TypeId}{fz:Nat×Nat}(h:qbw σ Z z (.cells c ty fz)):False:=by
 rcases h with⟨_,_,_,h,_⟩|⟨_,_,_,h⟩|⟨_,_,_,_,h,_⟩|⟨_,_,_,_,_,_,h⟩<;>cases h
def qbw.itm{r:Nat}{o:Obj}(h:qbw σ Z (itM r) o):∃m s l,VR σ Z (.map r) (.map (some m))/\o = .mapIter (some m) s #[] l:=by
 rcases h with⟨h,_⟩|⟨a',n',h1,h2⟩|⟨r',r'',ts',h1,_⟩|⟨r',m,s,l,h1,h2,h3⟩
 .exact absurd rfl (h _ rfl).1
 .simp[xI,itM]at h1
 .simp[zu,itM]at h1
 .simp only[itM,List.cons.injEq,Prod.mk.injEq,AV.map.injEq,true_and,and_true]at h1;subst h1;exact⟨m,s,l,h2,h3⟩
structure Rel (σ:Nat->Value) (Z:Ren) (B:Nat->Prop) (h:Hp) (w:World):Prop where
 dom:∀b L,Z b=some L->b<h.sz
 cells:∀b L e wf af cs,Z b=some L->h.tr.get b=some (.cells e wf af cs)->L.esz=e/\∃c ty fz,w.heap[L.blk]?=some (.cells c ty fz)/\c.size=L.size/\L.off+cs.length<=L.size /\
  (∀j v,cs[j]?=some v->∃v',c[L.off+j]?=some v'/\VR σ Z v v')/\((wf||af)=true->∀j,(j<L.size\/(e=0/\j=L.size))->¬(fz.1<=j/\j<fz.2))
 maps:∀b L es,Z b=some L->h.tr.get b=some (.map es)->L.off=0/\∃o,w.heap[L.blk]?=some o/\qbw σ Z es o
 excl:∀b L e af cs,Z b=some L->h.tr.get b=some (.cells e true af cs)->∀b' L' x,Z b'=some L'->h.tr.get b'=some x->x≠.dead->L'.blk=L.blk->b'=b
 exclm:∀b L es,Z b=some L->h.tr.get b=some (.map es)->∀b' L' x,Z b'=some L'->h.tr.get b'=some x->x≠.dead->L'.blk=L.blk->b'=b
 app:∀b L e wf cs,Z b=some L->h.tr.get b=some (.cells e wf true cs)->∀b' L' e' wf' af' cs',Z b'=some L'->h.tr.get b'=some (.cells e' wf' af' cs')->L'.blk=L.blk->L'.off+cs'.length<=L.off+cs.length/\(af'=true->b'=b)
 flr:∀b L,Z b=some L->h.fl<=b->¬B L.blk
 base:∀k,B k->k<w.heap.size
 frz:∀k arr,Z.frz k=some arr->(∃ty fz,w.heap[k]?=some (.cells arr ty fz))/\∀b L x,Z b=some L->h.tr.get b=some x->x≠.dead->L.blk≠k
 dn:Z.n<=h.sz/\∀b L,Z b=some L->L.blk<w.heap.size
abbrev low (n:Nat):Nat->Prop:=λk=>k<n
omit [Cur] in
def wJ{B:Nat->Prop}{n:Nat}(h:∀k,B k->k<n){k:Nat}(z:n<=k):¬B k:=Ah
omit [Cur] in
def qfT{B:Nat->Prop}{n m:Nat}(h:∀k,B k->k<n)(z:n<=m):∀k,B k->k<m:=Ah
structure Kept (Z:Ren) (B:Nat->Prop) (h:Hp) (w:World) (Z':Ren) (h':Hp) (w':World):Prop where
 ext:∀b,b<h.sz->Z' b=Z b
 szle:h.sz<=h'.sz
 fl:h'.fl=h.fl
 akeep:∀b,b<h.fl->b<h.sz->h'.tr.get b=h.tr.get b
 pres:∀k,B k->w'.heap[k]?=w.heap[k]?
 wle:w.heap.size<=w'.heap.size
 io:w'.os=w.os/\w'.output=w.output
 frz:∀k a,Z.frz k=some a->Z'.frz k=some a
 fnew:∀k a,Z'.frz k=some a->Z.frz k=some a\/¬B k
 nle:Z.n<=Z'.n
omit [Cur] in
theorem Kept.refl(Z:Ren)(B:Nat->Prop)(h:Hp)(w:World):Kept Z B h w Z h w :=
 ⟨λ_ _=>rfl,zzL _,rfl,λ_ _ _=>rfl,λ_ _=>rfl,zzL _,⟨rfl,rfl⟩,λ_ _ h=>h,λ_ _ h=>.inl h,zzL _⟩
omit [Cur] in
theorem Kept.trans{Z F D:Ren}{B:Nat->Prop}{h h1 H:Hp}{w w1 G:World}(z:Kept Z B h w F h1 w1)(d:Kept F B h1 w1 D H G):Kept Z B h w D H G :=
 ⟨λb C=>(d.ext b (zzh C z.szle)).trans (z.ext b C),zzg z.szle d.szle,d.fl.trans z.fl,
  λb C A=>(d.akeep b (z.fl ▸ C) (zzh A z.szle)).trans (z.akeep b C A),λk E=>(d.pres k E).trans (z.pres k E),zzg z.wle d.wle,⟨d.io.1.trans z.io.1,d.io.2.trans z.io.2⟩,by grind[Kept.frz],by grind[Kept.fnew],zzg z.nle d.nle⟩
omit [Cur] in
theorem Kept.mono{B:Nat->Prop}{h h':Hp}{w w':World}(k:Kept Z B h w Z' h' w')(hd:∀b L,Z b=some L->b<h.sz):Z.le Z' :=
 ⟨by grind[Kept.ext],k.frz,k.nle⟩
def Rel.heap{B:Nat->Prop}{h:Hp}{w w':World}(r:Rel σ Z B h w)(e:w'.heap=w.heap):Rel σ Z B h w' :=
 ⟨r.dom,by rw[e];exact r.cells,by rw[e];exact r.maps,r.excl,r.exclm,r.app,r.flr,by rw[e];exact r.base,by rw[e];exact r.frz,by rw[e];exact r.dn⟩
omit [Cur] in
def Kept.heap{B:Nat->Prop}{h h':Hp}{w w' z:World}(k:Kept Z B h w Z' h' w')(e:z.heap=w'.heap)(d:z.os=w'.os/\z.output=w'.output):Kept Z B h w Z' h' z :=
 ⟨k.ext,k.szle,k.fl,k.akeep,by rw[e];exact k.pres,by rw[e];exact k.wle,⟨d.1.trans k.io.1,d.2.trans k.io.2⟩,k.frz,k.fnew,k.nle⟩
def Ren.add(Z:Ren)(b:Nat)(L:Loc):Ren:=⟨λx=>if x=b then some L else Z x,Z.frz,max Z.n (b+1)⟩
def Hp.push(h:Hp)(x:Blk):Hp:=⟨Nat.succ h.sz,h.fl,h.tr.set h.sz x⟩
def Hp.put(h:Hp)(b:Nat)(x:Blk):Hp:=⟨h.sz,h.fl,h.tr.set b x⟩
omit [Cur] in
theorem zD(h:Hp)(x:Blk)(k:Nat->Hp->Prop):x6 h x k↔k h.sz (h.push x):=by
 cases h;simp only[x6,Tr.setK_iff,qy];exact Bm
omit [Cur] in
theorem xb(h:Hp)(b:Nat)(x:Blk)(k:Hp->Prop):jG h b x k↔h.fl<=b/\k (h.put b x):=by
 cases h with
 | mk C z tr =>
  show(Bool.rec (motive:=λ_=>Prop) False (tr.setK b x (λd=>k ⟨C,z,d⟩)) (Nat.ble z b):Prop)↔_
  rw[qei]
  by_cases A:z<=b
  .simp only[A,decide_true];rw[Tr.setK_iff];simp;exact Bm
  .simp[A]
omit [Cur] in
def zh(h:Hp)(b:Nat)(k:Nat->Bool->Bool->List AV->Prop):qas h b k↔∃e w a z,h.tr.get b=some (.cells e w a z)/\k e w a z:=by
 simp only[qas,Tr.getK_iff];constructor
 .rintro⟨v,A,hk⟩;cases v with
  | cells e w a z=>exact Ah
  | dead=>exact Gy
  | map d=>exact Gy
 exact Ah
def Rel.fresh{B:Nat->Prop}{h:Hp}{w w':World}(r:Rel σ Z B h w)(D F:Bool)(A:List AV)(c:Array Value)(ty:TypeId)(fz:Nat×Nat)(z:Loc)(U:∀j,(j<z.size\/(z.esz=0/\j=z.size))->¬(fz.1<=j/\j<fz.2))
  (hold:∀k,k<w.heap.size->w'.heap[k]?=w.heap[k]?) (H:w.heap.size<=w'.heap.size) (Q:w.heap.size<=z.blk) (C:w'.heap[z.blk]?=some (.cells c ty fz)) (J:c.size=z.size)
  (hio:w'.os=w.os/\w'.output=w.output) (N:z.off+A.length<=z.size) (W:∀(j:Nat) v,A[j]?=some v->∃v',c[z.off+j]?=some v'/\VR σ Z v v') :
  Rel σ (Z.add h.sz z) B (h.push (.cells z.esz D F A)) w'/\Kept Z B h w (Z.add h.sz z) (h.push (.cells z.esz D F A)) w':=by
 have E:∀b L,Z b=some L->(Z.add h.sz z) b=some L:=by
  intro b L hb;have:=r.dom b L hb;simp only[Ren.add];rw[if_neg Ac];exact hb
 have hle:Z.le (Z.add h.sz z):=⟨E,λ_ _ h=>h,Nat.le_max_left _ _⟩
 have hwf:∀b L,Z b=some L->∀x,h.tr.get b=some x->x≠.dead->L.blk<w.heap.size:=by
  intro b L hb x hx hd;cases x with
  | cells e' wf' af' cs'=>obtain⟨_,c',ty',G,R,_⟩:=r.cells b L e' wf' af' cs' hb hx;exact Ah
  | dead=>exact absurd rfl hd
  | map es=>obtain⟨_,ob,R,_⟩:=r.maps b L es hb hx;exact Ah
 have hget:∀b x,(h.push (.cells z.esz D F A)).tr.get b=some x->b≠h.sz->h.tr.get b=some x:=by
  intro b x hx hb;simp only[Hp.push,zz4]at hx;rwa [if_neg hb]at hx
 have d:∀x,(h.push (.cells z.esz D F A)).tr.get h.sz=some x->x = .cells z.esz D F A:=by
  intro x hx;simp[Hp.push,zz4]at hx;exact hx.symm
 have hren:∀b L,(Z.add h.sz z) b=some L->(b=h.sz/\L=z)\/(b≠h.sz/\Z b=some L):=by
  intro b L hb;simp only[Ren.add]at hb;split at hb
  .left;exact Ah
  .right;exact Ah
 refine⟨⟨?_,?_,?_,?_,?_,?_,?_,?_,?_,⟨Nat.max_le.2 ⟨Nat.le_succ_of_le r.dn.1,zzL _⟩,?_⟩⟩,⟨?_,?_,rfl,?_,?_,?_,hio,λ_ _ h=>h,λ_ _ h=>.inl h,Nat.le_max_left _ _⟩⟩
 .intro b L hb;exact Dw
 .intro b L e' wf' af' cs' hb hg;rcases hren b L hb with⟨rfl,rfl⟩|⟨hne,hb⟩
  .cases d _ hg;refine⟨rfl,c,ty,fz,C,J,N,?_,Ah⟩
   intro j v hv;obtain⟨v',h1,h2⟩:=W j v hv;exact Dj
  .exact Bd
 .intro b L es hb hg;rcases hren b L hb with⟨rfl,rfl⟩|⟨hne,hb⟩
  .cases d _ hg
  .exact Cl
 .intro b L e' af' cs' hb hg b' L' x hb' hx hd he;rcases hren b L hb with⟨rfl,rfl⟩|⟨hne,hb1⟩<;>rcases hren b' L' hb' with⟨rfl,rfl⟩|⟨hne',hb'⟩
  .rfl
  .have:=hwf b' L' hb' _ (hget _ _ hx hne') hd;exact Ac
  .have:=hwf b L hb1 _ (hget _ _ hg hne) (by simp);exact Ac
  .exact Dc
 .intro b L es hb hg b' L' x hb' hx hd he;rcases hren b L hb with⟨rfl,rfl⟩|⟨hne,hb1⟩<;>rcases hren b' L' hb' with⟨rfl,rfl⟩|⟨hne',hb'⟩
  .rfl
  .have:=hwf b' L' hb' _ (hget _ _ hx hne') hd;exact Ac
  .have:=hwf b L hb1 _ (hget _ _ hg hne) (by simp);exact Ac
  .exact C0
 .intro b L e' wf' cs' hb hg b' L' e2 wf2 af2 cs2 hb' hx he;rcases hren b L hb with⟨rfl,rfl⟩|⟨hne,hb1⟩<;>rcases hren b' L' hb' with⟨rfl,rfl⟩|⟨hne',hb'⟩
  .cases d _ hg;cases d _ hx;exact Ac
  .have:=hwf b' L' hb' _ (hget _ _ hx hne') (by simp);exact Ac
  .have:=hwf b L hb1 _ (hget _ _ hg hne) (by simp);exact Ac
  .exact Ex
 .intro b L hb Y;rcases hren b L hb with⟨rfl,rfl⟩|⟨_,hb⟩
  .exact wJ r.base Q
  .exact r.flr b L hb Y
 .exact qfT r.base H
 .intro k I M;obtain⟨⟨ty',G,h1⟩,h2⟩:=r.frz k I M;have K:k<w.heap.size:=Ah
  refine⟨⟨ty',G,by rw[hold k K];exact h1⟩,λb L x hb hx hd=>?_⟩
  rcases hren b L hb with⟨rfl,rfl⟩|⟨hne,hb⟩
  .exact Ac
  .exact Ah
 .intro b L hb;rcases hren b L hb with⟨rfl,rfl⟩|⟨_,hb⟩
  .exact Ah
  .exact zzh (r.dn.2 b L hb) H
 .intro b hb;simp only[Ren.add];rw[if_neg Ac]
 .exact Nat.le_succ _
 .intro b _ hb;simp only[Hp.push,zz4];rw[if_neg Ac]
 all_goals grind[Rel.base]
def Rel.push{B:Nat->Prop}{h:Hp}{w w':World}(r:Rel σ Z B h w)(e:Nat)(A C:Bool)(z:List AV)(c:Array Value)(ty:TypeId)(fz:Nat×Nat)(d:∀j,(j<c.size\/(e=0/\j=c.size))->¬(fz.1<=j/\j<fz.2))
  (D:w'.heap=w.heap.push (.cells c ty fz)) (hio:w'.os=w.os/\w'.output=w.output) (E:z.length<=c.size) (F:∀(j:Nat) v,z[j]?=some v->∃v',c[j]?=some v'/\VR σ Z v v') :
  Rel σ (Z.add h.sz ⟨w.heap.size,0,c.size,e⟩) B (h.push (.cells e A C z)) w'/\Kept Z B h w (Z.add h.sz ⟨w.heap.size,0,c.size,e⟩) (h.push (.cells e A C z)) w' :=
 r.fresh A C z c ty fz ⟨w.heap.size,0,c.size,e⟩ d Ah (by rw[D,Array.size_push];exact Ac) (zzL _) (by rw[D];simp) rfl hio Ad
  Ad
def Rel.world{B:Nat->Prop}{h:Hp}{w w':World}(r:Rel σ Z B h w)(E:∀n,n<w.heap.size->w'.heap[n]?=w.heap[n]?)(d:w.heap.size<=w'.heap.size):Rel σ Z B h w':=by
 refine⟨r.dom,?_,?_,r.excl,r.exclm,r.app,r.flr,qfT r.base d,λk z C=>?_,⟨r.dn.1,λb L A=>zzh (r.dn.2 b L A) d⟩⟩
 rotate_right
 .obtain⟨⟨F,fz,D⟩,G⟩:=r.frz k z C;exact Ah
 all_goals grind[Rel.cells,Rel.maps]
omit [Cur] in
theorem Ren.add_self(Z:Ren)(b:Nat)(L:Loc):(Z.add b L) b=some L:=by simp[Ren.add]
end
section
variable [Cur]
variable {σ:Nat->Value}{Z Z':Ren}
structure Spl (c:Array Value) (p:Nat) (vs:List Value) (c':Array Value):Prop where
 size:c'.size=c.size
 out:∀j,j<p\/p+vs.length<=j->c'[j]?=c[j]?
 inn:∀j v,vs[j]?=some v->c'[p+j]?=some v
theorem Rel.blk_lt{B:Nat->Prop}{h:Hp}{w:World}(r:Rel σ Z B h w):∀b L,Z b=some L->∀x,h.tr.get b=some x->x≠.dead->L.blk<w.heap.size:=by
 intro b L C x D hd;cases x with
 | cells F A z d=>obtain⟨_,J,E,I,H,_⟩:=r.cells b L F A z d C D;exact Ah
 | dead=>exact Ad
 | map G=>obtain⟨_,K,H,_⟩:=r.maps b L G C D;exact Ah
def Rel.longer{B:Nat->Prop}{h h':Hp}{w:World}(r:Rel σ Z B h w)(K:h.sz<=h'.sz)(R:h'.fl=h.fl)(Q:∀b,b<h.sz->h'.tr.get b=h.tr.get b):Rel σ Z B h' w:=by
 have z:∀b L,Z b=some L->h'.tr.get b=h.tr.get b:=by grind[Rel.dom]
 refine⟨by grind[Rel.dom],?_,?_,?_,?_,?_,H8,r.base,Dz,⟨zzg r.dn.1 K,r.dn.2⟩⟩
 .grind[Rel.cells]
 .grind[Rel.maps]
 .exact Dc
 .exact C0
 .intro b L e J N F G H I M E C D d A;rw[z b L F]at G;rw[z H I d]at A;exact r.app b L e J N F G H I M E C D d A
def Ren.bump(Z:Ren)(m:Nat):Ren:=⟨Z.loc,Z.frz,max Z.n m⟩
omit [Cur] in
theorem Ren.bump_le(Z:Ren)(m:Nat):Z.le (Z.bump m):=⟨λ_ _ h=>h,λ_ _ h=>h,Nat.le_max_left _ _⟩
def Rel.bump{B:Nat->Prop}{h:Hp}{w:World}(r:Rel σ Z B h w){m:Nat}(C:m<=h.sz):Rel σ (Z.bump m) B h w :=
 ⟨r.dom,λb L e A E D d z=>let ⟨G,c,K,fz,H,I,N,J,M⟩:=r.cells b L e A E D d z
  (by grind[VR.mono,Ren.bump_le]),
  λb L F d z=>let ⟨G,o,H,I⟩:=r.maps b L F d z;(by grind[qbw.mono,Ren.bump_le]),r.excl,r.exclm,r.app,r.flr,r.base,r.frz,⟨Nat.max_le.2 ⟨r.dn.1,C⟩,r.dn.2⟩⟩
def Rel.idle{B:Nat->Prop}{h:Hp}{w:World}(r:Rel σ Z B h w)(x:Blk):Rel σ (Z.bump (h.sz+1)) B (h.push x) w/\Kept Z B h w (Z.bump (h.sz+1)) (h.push x) w :=
 ⟨(r.longer (h':=h.push x) (Nat.le_succ _) rfl (λb z=>by simp only[Hp.push,zz4];rw[if_neg Ac])).bump (zzL _),
  λ_ _=>rfl,Nat.le_succ _,rfl,λb _ z=>by simp only[Hp.push,zz4];rw[if_neg Ac],λ_ _=>rfl,zzL _,⟨rfl,rfl⟩,λ_ _ h=>h,λ_ _ h=>.inl h,Nat.le_max_left _ _⟩
theorem Rel.frz'{B:Nat->Prop}{h:Hp}{w w':World}{φ:Fz}(r:Rel σ Z B h w)(H:∀n,n<w.heap.size->w'.heap[n]?=w.heap[n]?)(M:w.heap.size<=w'.heap.size)(h1:∀k a,Z.frz k=some a->φ k=some a)
  (h2:∀k a,φ k=some a->Z.frz k=some a\/w.heap.size<=k) (K:∀k a,φ k=some a->∃D fz,w'.heap[k]?=some (.cells a D fz)):Rel σ ⟨Z.loc,φ,Z.n⟩ B h w':=by
 have z:=r.world H M;have J:Z.le ⟨Z.loc,φ,Z.n⟩:=⟨λ_ _ h=>h,h1,zzL _⟩
 refine⟨z.dom,λb L e E G I d C=>?_,λb L Q d C=>?_,z.excl,z.exclm,z.app,z.flr,z.base,λk A F=>⟨K k A F,λb L x d hx hd=>?_⟩,z.dn⟩
 .obtain⟨U,c,D,fz,W,Y,N,g5,R⟩:=z.cells b L e E G I d C;exact Dj
 all_goals grind[Rel.maps,qbw.mono,Rel.frz,Rel.blk_lt]
def Rel.store{B:Nat->Prop}{h:Hp}{w w':World}(r:Rel σ Z B h w){b:Nat}{L:Loc}{e:Nat}{H:Bool}{A:List AV}(hb:Z b=some L)
  (hg:h.tr.get b=some (.cells e true H A)) (hf:h.fl<=b) (off:Nat) (vs:List AV) (vs':List Value) (hv:VRs σ Z vs vs') (hl:off+vs.length<=A.length)
  {c R:Array Value}{ty:TypeId}{fz:Nat×Nat}(hc:w.heap[L.blk]?=some (.cells c ty fz)) (U:Spl c (L.off+off) vs' R)
  (hw:w'.heap=w.heap.setIfInBounds L.blk (.cells R ty fz)) (hio:w'.os=w.os/\w'.output=w.output) :
  Rel σ Z B (h.put b (.cells e true H (A.take off++(vs++A.drop (off+vs.length))))) w'/\Kept Z B h w Z (h.put b (.cells e true H (A.take off++(vs++A.drop (off+vs.length))))) w':=by
 have hlen:=hv.length;have hcl:(A.take off++(vs++A.drop (off+vs.length))).length=A.length:=by simp;exact Ac
 have hlt:L.blk<w.heap.size:=(Array.getElem?_eq_some_iff.1 hc).1
 have hold:∀k,k≠L.blk->w'.heap[k]?=w.heap[k]?:=by
  intro k M;rw[hw,zzw];rw[if_neg Ac]
 have K:w'.heap[L.blk]?=some (.cells R ty fz):=H1
 have z:∀b' x,(h.put b (.cells e true H (A.take off++(vs++A.drop (off+vs.length))))).tr.get b'=some x->b'≠b->h.tr.get b'=some x:=by
  intro b' x D hne;simp only[Hp.put,zz4]at D;rwa [if_neg hne]at D
 have G:∀x,(h.put b (.cells e true H (A.take off++(vs++A.drop (off+vs.length))))).tr.get b=some x->x = .cells e true H (A.take off++(vs++A.drop (off+vs.length))):=by
  intro x D;simp[Hp.put,zz4]at D;exact D.symm
 have hother:∀b' L' x,Z b'=some L'->h.tr.get b'=some x->x≠.dead->b'≠b->L'.blk≠L.blk :=
  λb' L' x hb' D hd hne J=>hne (r.excl b L e H A hb hg b' L' x hb' D hd J)
 obtain⟨J,c0,ty0,fz0,h1,h2,h3,h4,h5⟩:=r.cells b L e true H A hb hg;rw[hc]at h1;cases h1;refine⟨⟨r.dom,?_,?_,?_,?_,?_,r.flr,?_,?_,⟨r.dn.1,λb L hb=>Gz⟩⟩,⟨λ_ _=>rfl,zzL _,rfl,?_,?_,?_,hio,λ_ _ h=>h,λ_ _ h=>.inl h,zzL _⟩⟩
 .intro b' L' e' wf' af' cs' hb' E
  by_cases hne:b'=b
  .subst hne;rw[hb]at hb';cases hb';cases G _ E;refine⟨J,R,ty,fz,K,U.size.trans h2,Ac,?_,h5⟩
   intro j v d
   by_cases hj1:j<off
   .rw[zzj (by simp;exact Ac),zzq hj1]at d;obtain⟨v',F,h7⟩:=h4 j v d;exact⟨v',by rw[U.out _ Ac];exact F,h7⟩
   .rw[zzr (by simp;exact Ac)]at d;have N:(A.take off).length=off:=by simp;exact Ac
    rw[N]at d
    by_cases hj2:j<off+vs.length
    .rw[zzj Ac]at d;obtain⟨v',F,h7⟩:=hv.get d;refine⟨v',?_,h7⟩;have:=U.inn _ _ F;rwa [show L.off+off+(j-off)=L.off+j from Ac]at this
    .rw[zzr Ac,zzp]at d;rw[show off+vs.length+(j-off-vs.length)=j from Ac]at d
     obtain⟨v',F,h7⟩:=h4 j v d;exact⟨v',by rw[U.out _ Ac];exact F,h7⟩
  .have hg2:=z _ _ E hne;obtain⟨F,c2,ty2,fz2,h7,h8,h9,h10,h11⟩:=r.cells b' L' e' wf' af' cs' hb' hg2;exact⟨F,c2,ty2,fz2,Fy,h8,h9,h10,h11⟩
 .intro b' L' Y hb' E;have hne:b'≠b:=by rintro rfl;cases G _ E
  have hg2:=z _ _ E hne;obtain⟨F,ob,h7,h8⟩:=r.maps b' L' Y hb' hg2;exact⟨F,ob,Fy,h8⟩
 .intro b1 L1 N af1 I hb1 C b2 L2 x hb2 D hd he2
  by_cases n1:b1=b
  .subst n1;rw[hb]at hb1;cases hb1
   by_cases n2:b2=b1
   .exact n2
   .exact absurd he2 (hother b2 L2 x hb2 (z _ _ D n2) hd n2)
  .have hg1':=z _ _ C n1
   by_cases n2:b2=b
   .exact Ca
   .exact r.excl b1 L1 N af1 I hb1 hg1' b2 L2 x hb2 (z _ _ D n2) hd he2
 .intro b1 L1 Y hb1 C b2 L2 x hb2 D hd he2;have n1:b1≠b:=by rintro rfl;cases G _ C
  have hg1':=z _ _ C n1
  by_cases n2:b2=b
  .exact Ca
  .exact r.exclm b1 L1 Y hb1 hg1' b2 L2 x hb2 (z _ _ D n2) hd he2
 .intro b1 L1 N wf1 I hb1 C b2 L2 e2 wf2 W cs2 hb2 hg2 he2
  by_cases n1:b1=b
  .subst n1;rw[hb]at hb1;cases hb1
   by_cases n2:b2=b1
   .subst n2;rw[hb]at hb2;cases hb2;cases G _ C;cases G _ hg2;exact⟨zzL _,λ_=>rfl⟩
   .exact absurd he2 (hother b2 L2 _ hb2 (z _ _ hg2 n2) (by simp) n2)
  .have hg1':=z _ _ C n1
   by_cases n2:b2=b
   .exact Ca
   .exact r.app b1 L1 N wf1 I hb1 hg1' b2 L2 e2 wf2 W cs2 hb2 (z _ _ hg2 n2) he2
 .rw[hw,Array.size_setIfInBounds];exact r.base
 .intro k arr M;obtain⟨⟨ty',fz',F⟩,h7⟩:=r.frz k arr M;have hne:L.blk≠k:=h7 b L _ hb hg (by simp);refine⟨⟨ty',fz',by rw[hold k Ac];exact F⟩,λb' L' x hb' D hd=>?_⟩
  by_cases Q:b'=b
  .subst Q;rw[hb]at hb';cases hb';exact hne
  .exact h7 b' L' x hb' (z _ _ D Q) hd
 .intro b' hb' _;simp only[Hp.put,zz4];rw[if_neg Ac]
 .intro k M;exact hold k (λJ=>r.flr b L hb hf (by first|(rw[<- J];exact M)|(rw[J];exact M)))
 .rw[hw,Array.size_setIfInBounds];exact zzL _
def Rel.weak{B:Nat->Prop}{h:Hp}{w:World}(r:Rel σ Z B h w){b:Nat}{e:Nat}{wf af:Bool}{cs:List AV}
  (hg:h.tr.get b=some (.cells e wf af cs)) (hf:h.fl<=b) (y:Blk) (hy:y = .dead\/y = .cells e false false cs) :
  Rel σ Z B (h.put b y) w/\Kept Z B h w Z (h.put b y) w:=by
 have hget:∀z x,(h.put b y).tr.get z=some x->(z=b/\x=y)\/(z≠b/\h.tr.get z=some x):=by
  intro z x hx;simp only[Hp.put,zz4]at hx
  exact Ah
 have d:∀z e' E F D,(h.put b y).tr.get z=some (.cells e' E F D)->∃C A,h.tr.get z=some (.cells e' C A D)/\(E=true->C=true/\z≠b)/\(F=true->A=true/\z≠b):=Ah
 have Q:∀z W,(h.put b y).tr.get z=some (.map W)->h.tr.get z=some (.map W):=Ah
 have U:∀z x,(h.put b y).tr.get z=some x->x≠.dead->∃Y,h.tr.get z=some Y/\Y≠.dead:=Ah
 refine⟨⟨r.dom,?_,?_,?_,?_,?_,r.flr,r.base,?_,r.dn⟩,⟨λ_ _=>rfl,zzL _,rfl,?_,λ_ _=>rfl,zzL _,⟨rfl,rfl⟩,λ_ _ h=>h,λ_ _ h=>.inl h,zzL _⟩⟩
 .grind[Rel.cells]
 .grind[Rel.maps]
 .exact Dc
 .exact C0
 .intro b1 L1 e1 wf1 N G K b2 L2 e2 C A M H R he;obtain⟨I,af3,h1,h2,h3⟩:=d b1 _ _ _ _ K;obtain⟨rfl,_⟩:=h3 rfl;obtain⟨J,L,h4,h5,h6⟩:=d b2 _ _ _ _ R;have:=r.app b1 L1 e1 I N G h1 b2 L2 e2 J L M H h4 he
  exact Ah
 .exact Dz
 .intro z hb' _;simp only[Hp.put,zz4];rw[if_neg Ac]
def Rel.grow{B:Nat->Prop}{h:Hp}{w w':World}(r:Rel σ Z B h w){b:Nat}{L:Loc}{e:Nat}{wf:Bool}{M:List AV}(hb:Z b=some L)
  (hg:h.tr.get b=some (.cells e wf true M)) (hf:h.fl<=b) (o:Nat) (ho:o<=M.length) (vs:List AV) (vs':List Value) (hv:VRs σ Z vs vs') (hl:L.off+M.length+vs.length<=L.size)
  (y:Blk) (N:Bool) (hy:(y = .dead/\N=wf)\/(y = .cells e false false M/\N=false))
  {c c':Array Value}{ty:TypeId}{fz:Nat×Nat}(hc:w.heap[L.blk]?=some (.cells c ty fz)) (hs:Spl c (L.off+M.length) vs' c')
  (hw:w'.heap=w.heap.setIfInBounds L.blk (.cells c' ty fz)) (hio:w'.os=w.os/\w'.output=w.output) :
  Rel σ (Z.add h.sz ⟨L.blk,L.off+o,L.size,e⟩) B ((h.put b y).push (.cells e N true (M.drop o++vs))) w' /\
  Kept Z B h w (Z.add h.sz ⟨L.blk,L.off+o,L.size,e⟩) ((h.put b y).push (.cells e N true (M.drop o++vs))) w':=by
 have hlen:=hv.length;have hbs:=r.dom b L hb;have hlt:L.blk<w.heap.size:=Ah
 have hold:∀k,k≠L.blk->w'.heap[k]?=w.heap[k]?:=by
  intro k hk;rw[hw,zzw];rw[if_neg Ac]
 have hnew:w'.heap[L.blk]?=some (.cells c' ty fz):=H1
 have hext:∀d D,Z d=some D->(Z.add h.sz ⟨L.blk,L.off+o,L.size,e⟩) d=some D:=by
  intro d D z;have:=r.dom d D z;simp only[Ren.add];rw[if_neg Ac];exact z
 have hle:Z.le (Z.add h.sz ⟨L.blk,L.off+o,L.size,e⟩):=⟨hext,λ_ _ h=>h,Nat.le_max_left _ _⟩
 have C:∀d D,(Z.add h.sz ⟨L.blk,L.off+o,L.size,e⟩) d=some D->(d=h.sz/\D=⟨L.blk,L.off+o,L.size,e⟩)\/(d≠h.sz/\Z d=some D):=by
  intro d D z;simp only[Ren.add]at z;split at z
  .left;exact Ad
  .right;exact Ad
 have Y:∀x,((h.put b y).push (.cells e N true (M.drop o++vs))).tr.get h.sz=some x->x = .cells e N true (M.drop o++vs):=by
  intro x K;simp[Hp.push,Hp.put,zz4]at K;exact K.symm
 have U:∀x,((h.put b y).push (.cells e N true (M.drop o++vs))).tr.get b=some x->x=y:=by
  intro x K;simp only[Hp.push,Hp.put,zz4]at K;rw[if_neg Ac]at K;simpa using K.symm
 have E:∀d x,((h.put b y).push (.cells e N true (M.drop o++vs))).tr.get d=some x->d≠h.sz->d≠b->h.tr.get d=some x:=by
  intro d x K h1 h2;simp only[Hp.push,Hp.put,zz4]at K;rw[if_neg h1,if_neg h2]at K;exact K
 obtain⟨he,c0,ty0,fz0,h1,h2,h3,h4,h5⟩:=r.cells b L e wf true M hb hg;rw[hc]at h1;cases h1
 -- no other living block of the row is writable
 have hnw:∀d D e' af' cs',Z d=some D->h.tr.get d=some (.cells e' true af' cs')->d≠b->D.blk≠L.blk :=
  λd D e' af' cs' z K W R=>Dc
 have hnm:∀d D es,Z d=some D->h.tr.get d=some (.map es)->D.blk≠L.blk:=by
  intro d D es z K R;obtain⟨_,ob,h7,h8⟩:=r.maps d D es z K;rw[R,hc]at h7;cases h7;exact h8.notCells
 have hexw:wf=true->∀d D x,Z d=some D->h.tr.get d=some x->x≠.dead->d≠b->D.blk≠L.blk:=by
  intro hwf d D x z K hd W R;subst hwf;exact Dc
 refine⟨⟨?_,?_,?_,?_,?_,?_,?_,?_,?_,⟨Nat.max_le.2 ⟨Nat.le_succ_of_le r.dn.1,zzL _⟩,?_⟩⟩,⟨?_,?_,rfl,?_,?_,?_,hio,λ_ _ h=>h,λ_ _ h=>.inl h,Nat.le_max_left _ _⟩⟩
 .intro d D z;rcases C d D z with⟨rfl,_⟩|⟨_,z⟩
  .exact Nat.lt_succ_self _
  .exact Nat.lt_succ_of_lt (r.dom d D z)
 .intro d D e' wf' af' cs' z hg';rcases C d D z with⟨rfl,rfl⟩|⟨W,z⟩
  .cases Y _ hg';refine⟨rfl,c',ty,fz,hnew,hs.size.trans h2,by simp;exact Ac,?_,Ah⟩
   intro j v J
   by_cases hj:j<M.length-o
   .rw[zzj (by simp;exact Ac),zzp]at J;obtain⟨v',h6,h7⟩:=h4 _ v J;refine⟨v',?_,h7.mono hle⟩;rw[hs.out _ (by simp;exact Ac)];rw[<- h6];congr 1;simp;exact Ac
   .rw[zzr (by simp;exact Ac)]at J;obtain⟨v',h6,h7⟩:=hv.get J;refine⟨v',?_,h7.mono hle⟩;have:=hs.inn _ _ h6;rw[<- this];congr 1;simp;exact Ac
  .by_cases hbb:d=b
   .subst hbb;rw[hb]at z;cases z;cases U _ hg';rcases hy with⟨hy,_⟩|⟨hy,_⟩
    .cases hy
    .cases hy;refine⟨he,c',ty,fz,hnew,hs.size.trans h2,h3,?_,Ah⟩
     intro j v J;obtain⟨v',h6,h7⟩:=h4 _ v J;have hj:j<M.length:=Ah
     exact by grind[Spl.out,VR.mono]
   .have H:=E _ _ hg' W hbb;obtain⟨h6,c2,ty2,fz2,h7,h8,h9,h10,h11⟩:=r.cells d D e' wf' af' cs' z H
    by_cases R:D.blk=L.blk
    .rw[R,hc]at h7;cases h7;have happ:=r.app b L e wf M hb hg d D e' wf' af' cs' z H R;refine⟨h6,c',ty,fz,by rw[R];exact hnew,hs.size.trans h8,h9,?_,h11⟩
     intro j v J;obtain⟨v',h12,h13⟩:=h10 _ v J;have hj:j<cs'.length:=Ah
     exact by grind[Spl.out,VR.mono]
    .refine⟨h6,c2,ty2,fz2,by rw[hold _ R];exact h7,h8,h9,?_,h11⟩
     intro j v J;obtain⟨v',h12,h13⟩:=h10 _ v J;exact Dj
 .intro d D es z hg';rcases C d D z with⟨rfl,rfl⟩|⟨W,z⟩
  .cases Y _ hg'
  .have hbb:d≠b:=by
    rintro rfl;have:=U _ hg';exact Cm
   have H:=E _ _ hg' W hbb;obtain⟨h6,ob,h7,h8⟩:=r.maps d D es z H;exact D4
 .intro b1 L1 e1 af1 cs1 F I b2 L2 x A K hd Q;rcases C b1 L1 F with⟨rfl,rfl⟩|⟨n1,F⟩
  .-- the new block is writable: so was the old one,which is dead
   cases Y _ I;rcases C b2 L2 A with⟨rfl,_⟩|⟨n2,A⟩
   .rfl
   .by_cases m2:b2=b
    .subst m2;have:=U _ K;subst this;rcases hy with⟨hy,_⟩|⟨_,hy⟩
     .exact absurd hy hd
     .cases hy
    .rcases hy with⟨_,hy⟩|⟨_,hy⟩
     .exact Ah
     .cases hy
  .have m1:b1≠b:=by
    rintro rfl;have:=U _ I;exact Cm
   have G:=E _ _ I n1 m1;rcases C b2 L2 A with⟨rfl,rfl⟩|⟨n2,A⟩
   .exact Ah
   .by_cases m2:b2=b
    .subst m2;rw[hb]at A;cases A;exact Ah
    .exact r.excl b1 L1 e1 af1 cs1 F G b2 L2 x A (E _ _ K n2 m2) hd Q
 .intro b1 L1 es F I b2 L2 x A K hd Q;rcases C b1 L1 F with⟨rfl,rfl⟩|⟨n1,F⟩
  .cases Y _ I
  .have m1:b1≠b:=by
    rintro rfl;have:=U _ I;exact Cm
   have G:=E _ _ I n1 m1;rcases C b2 L2 A with⟨rfl,rfl⟩|⟨n2,A⟩
   .exact Ah
   .by_cases m2:b2=b
    .subst m2;rw[hb]at A;cases A;exact Ah
    .exact r.exclm b1 L1 es F G b2 L2 x A (E _ _ K n2 m2) hd Q
 .intro b1 L1 e1 wf1 cs1 F I b2 L2 e2 wf2' af2 cs2 A H Q;rcases C b1 L1 F with⟨rfl,rfl⟩|⟨n1,F⟩
  .cases Y _ I;rcases C b2 L2 A with⟨rfl,rfl⟩|⟨n2,A⟩
   .cases Y _ H;exact Ac
   .by_cases m2:b2=b
    .subst m2;rw[hb]at A;cases A;have:=U _ H;subst this;rcases hy with⟨hy,_⟩|⟨hy,_⟩
     .cases hy
     .cases hy;exact Ah
    .have:=r.app b L e wf M hb hg b2 L2 e2 wf2' af2 cs2 A (E _ _ H n2 m2) Q;exact Ah
  .have m1:b1≠b:=by
    rintro rfl;have:=U _ I;exact Cm
   have G:=E _ _ I n1 m1;rcases C b2 L2 A with⟨rfl,rfl⟩|⟨n2,A⟩
   .-- two blocks of a row that may be appended to: their ends are one;nothing is appended then,or they are on rows of their own
    cases Y _ H;exact absurd ((r.app b1 L1 e1 wf1 cs1 F G b L e wf true M hb hg Q).2 rfl).symm m1
   .by_cases m2:b2=b
    .subst m2;rw[hb]at A;cases A;have:=U _ H;subst this;rcases hy with⟨hy,_⟩|⟨hy,_⟩
     .cases hy
     .cases hy;exact⟨(r.app b1 L1 e1 wf1 cs1 F G b2 L e wf true M hb hg Q).1,Ah⟩
    .exact r.app b1 L1 e1 wf1 cs1 F G b2 L2 e2 wf2' af2 cs2 A (E _ _ H n2 m2) Q
 .intro d D z hf';rcases C d D z with⟨rfl,rfl⟩|⟨_,z⟩
  .exact r.flr b L hb hf
  .exact r.flr d D z hf'
 .rw[hw,Array.size_setIfInBounds];exact r.base
 .intro k arr hk;obtain⟨⟨ty',fz',h6⟩,h7⟩:=r.frz k arr hk;have W:L.blk≠k:=Ah
  refine⟨⟨ty',fz',by rw[hold k Ac];exact h6⟩,λd D x z K hd=>?_⟩
  rcases C d D z with⟨rfl,rfl⟩|⟨hn,z⟩
  .exact W
  .by_cases hbb:d=b
   .subst hbb;rw[hb]at z;cases z;exact W
   .exact Ah
 .intro d D z;rw[hw,Array.size_setIfInBounds];rcases C d D z with⟨rfl,rfl⟩|⟨_,z⟩
  .exact r.dn.2 b L hb
  .exact r.dn.2 d D z
 .intro d z;simp only[Ren.add];rw[if_neg Ac]
 .exact Nat.le_succ _
 .intro d z hs';have:h.fl<=b:=hf;simp only[Hp.push,Hp.put,zz4];rw[if_neg Ac,if_neg Ac]
 all_goals grind[Rel.flr]
mutual
def vrc:AV->Value->Bool
 | .b x,.bool y=>x==y
 | .i k n,.int k' m=>decide (k=k')&&decide (n=m)
 | .s x,.string y=>x==y.data.toList
 | .nilp,.pointer none=>true
 | .nils,.slice none l c=>l==0&&c==0
 | .nilf,.nilFunc=>true
 | .nili,.nilIface=>true
 | .nilm,.map none=>true
 | .fn f a c,.func (.func g) a' c'=>f==g&&qnB a a'.toList&&qnB c c'.toList
 | .ifc t v,.iface t' v'=>t==t'&&vrc v v'
 | .agg l,.agg l'=>qnB l l'.toList
 | .tup l,.tuple l'=>qnB l l'.toList
 | _,_=>false
def qnB:List AV->List Value->Bool
 | [],[]=>true
 | v::vs,v'::vs'=>vrc v v'&&qnB vs vs'
 | _,_=>false
end
mutual
theorem qp2:∀(a:AV) (v:Value),vrc a v=true->VR σ Z a v
 | .b x,v,h=>by cases v<;>simp[vrc]at h;subst h;exact .b _
 | .i k n,v,h=>by cases v<;>simp[vrc]at h;obtain⟨rfl,rfl⟩:=h;exact .i _ _
 | .s x,v,h=>by
  cases v<;>simp[vrc]at h;rename_i s;subst h;cases s;exact .s _
 | .nilp,v,h=>by
  cases v<;>first|(simp[vrc]at h;done)|skip
  rename_i a;cases a<;>first|(simp[vrc]at h;done)|exact .nilp
 | .nils,v,h=>by
  cases v<;>first|(simp[vrc]at h;done)|skip
  rename_i a l c;cases a<;>first|(simp[vrc]at h;done)|(simp[vrc]at h;obtain⟨rfl,rfl⟩:=h;exact .nils)
 | .nilf,v,h=>by cases v<;>simp[vrc]at h;exact .nilf
 | .nili,v,h=>by cases v<;>simp[vrc]at h;exact .nili
 | .nilm,v,h=>by
  cases v<;>first|(simp[vrc]at h;done)|skip
  rename_i a;cases a<;>first|(simp[vrc]at h;done)|exact .nilm
 | .fn f a c,v,h=>by
  cases v<;>first|(simp[vrc]at h;done)|skip
  rename_i fn a' c';cases fn<;>first|(simp[vrc]at h;done)|skip
  simp[vrc]at h;obtain⟨⟨rfl,h1⟩,h2⟩:=h;exact .fn _ _ _ _ _ (qb2 _ _ h1) (qb2 _ _ h2)
 | .ifc t v,v',h=>by cases v'<;>simp[vrc]at h;obtain⟨rfl,h1⟩:=h;exact .ifc _ _ _ (qp2 _ _ h1)
 | .agg l,v,h=>by cases v<;>simp[vrc]at h;exact .agg _ _ (qb2 _ _ h)
 | .tup l,v,h=>by cases v<;>simp[vrc]at h;exact .tup _ _ (qb2 _ _ h)
 | .ptr _ _,v,h=>by cases v<;>simp[vrc]at h
 | .sl _ _ _ _ _,v,h=>by cases v<;>simp[vrc]at h
 | .map _,v,h=>by cases v<;>simp[vrc]at h
 | .sym _,v,h=>by cases v<;>simp[vrc]at h
 | .undef,v,h=>.undef v
theorem qb2:∀(a:List AV) (v:List Value),qnB a v=true->VRs σ Z a v
 | [],[],_=>.nil
 | v::vs,v'::vs',h=>by simp[qnB]at h;exact .cons _ _ _ _ (qp2 _ _ h.1) (qb2 _ _ h.2)
 | [],_::_,h=>by simp[qnB]at h
 | _::_,[],h=>by simp[qnB]at h
end
def qA:Operand->O->Bool
 | .tmp n,.t m=>n==m
 | .const v,.c a=>vrc a v
 | .func f,.c (.fn g [] [])=>f==g
 | _,_=>false
def qfi:List Operand->List O->Bool
 | [],[]=>true
 | x::d,y::z=>qA x y&&qfi d z
 | _,_=>false
def jY:Option Operand->Option O->Bool
 | none,none=>true
 | some x,some y=>qA x y
 | _,_=>false
def wi(P:Program)(t:TypeId):Bool:=match P.underlying t with|some (.struct _)|some (.array _ _)=>true|_=>false
def qe0(q:NK):Operand->Bool
 | .const (.pointer none)=>(match q with | .ptr=>true|_=>false)
 | .const (.slice none _ _)=>(match q with | .slice=>true|_=>false)
 | .const .nilFunc=>(match q with | .func=>true|_=>false)
 | .const .nilIface=>(match q with | .iface=>true|_=>false)
 | .const (.map none)=>(match q with | .map=>true|_=>false)
 | _=>false
def qvv(P:Program)(q:NK)(t:TypeId):Bool :=
 match P.underlying t,q with
 | some (.pointer _),.ptr|some (.slice _),.slice|some (.func ..),.func|some (.map ..),.map|some (.interface _),.iface=>true
 | _,_=>false
def qah(P:Program)(t:TypeId)(z:List AV):Bool :=
 match P.info? t with
 | some i=>match i.zero with|some v=>qnB z v.cells.toList&&(v.cells.size==i.size)|none=>false
 | none=>false
def qZ(P:Program)(t:TypeId)(n:Nat):Bool:=match P.info? t with|some i=>i.size==n|none=>false
def qbE(P:Program)(t:TypeId)(n:Nat):Bool:=match P.info? t with|some i=>i.bytes==n|none=>false
def qn4(P:Program):Nat->List Field->List PK->Bool
 | _,[],[]=>true
 | i,f::z,q::d=>f.name != "_" && f.offset==i&&(match P.underlying f.type,q with|some .bool,.b|some (.int _),.i|some .string,.s=>true|_,_=>false)&&qn4 P (i+1) z d
 | _,_,_=>false
def qLe(P:Program)(t:TypeId)(d:List PK):Bool :=
 match P.underlying t with
 | some (.struct z)=>!P.stoodInHeld t && !P.eqGuardType P.depth t&&qn4 P 0 z.toList d
 | _=>false
def qat(qna:Nat->Option (Nat×Nat)):List (Nat×Operand)->List (Nat×Nat×O)->Bool
 | [],[]=>true
 | (i,x)::d,(z,n,y)::A=>(qna i==some (z,n))&&qA x y&&qat qna d A
 | _,_=>false
def qEo(P:Program)(t:TypeId):Bool:=match P.underlying t with|some (.int _)|some .string=>true|_=>false
def qdQ(P:Program)(t:TypeId):Option (Array Field):=match P.underlying t with|some (.struct z)=>some z|_=>none
def zS(P:Program)(t:TypeId):Option TypeId:=match P.underlying t with|some (.slice e)=>some e|_=>none
def qgW(P:Program)(t:TypeId):Option (Nat×TypeId):=match P.underlying t with|some (.array n e)=>some (n,e)|_=>none
def qad(P:Program)(t:TypeId):Bool:=match P.underlying t with|some .string=>true|_=>false
def qq4(P:Program)(t:TypeId)(k:IntKind):Bool:=match P.underlying t with|some (.int q)=>decide (q=k)|_=>false
def qkV(P:Program)(t:TypeId):Bool:=match P.underlying t with|some (.int _)=>true|_=>false
def qka(P:Program)(t:TypeId):Bool:=match P.underlying t with|some .bool=>true|_=>false
def qhH(P:Program)(t:TypeId):Option (TypeId×TypeId):=match P.underlying t with|some (.map k e)=>some (k,e)|_=>none
def qpv(P:Program)(t:TypeId)(kd:Option IntKind):Bool:=match P.underlying t,kd with|some .string,none=>true|some (.int q),some z=>decide (q=z)|_,_=>false
def qsW(P:Program)(t:TypeId)(z:AV):Bool:=match P.info? t with|some j=>(match j.zero with|some v=>vrc z v|none=>false)|none=>false
def qi5(P:Program)(t:TypeId)(kd:Option IntKind):Bool:=match qhH P t with|some (z,_)=>qpv P z kd|none=>false
def qdM(P:Program)(b:Builtin)(A:Array TypeId)(args:List Operand)(r:IOp):Bool :=
 match b,args,r with
 | .len,[_],.mov (.c (.i .i64 n))=>match (A[0]?).bind (qgW P)with|some (m,_)=>decide (n=(m:Int))|none=>false
 | .len,[x],.len I y=>qA x y&&(match A[0]? with|some t=>if I then qad P t else(zS P t).isSome|none=>false)
 | .cap,[x],.cap y=>qA x y&&(match A[0]? with|some t=>(zS P t).isSome|none=>false)
 | .append,[s,x],.app D C _ G E=>qA s G&&qA x E&&(match A[0]?,A[1]? with
  | some H,some F=>(match zS P H with
   | some e=>qZ P e D&&qbE P e C&&(match P.info? e with|some i=>(match i.zero with|some z=>z.cells.size==i.size|none=>false)|none=>false)
   | none=>false)&&(qad P F||(zS P F).isSome)
  | _,_=>false)
 | .append,[s,x],.appD D C G E _=>qA s G&&qA x E&&(match A[0]?,A[1]? with
  | some H,some F=>(match zS P H with
   | some e=>qZ P e D&&qbE P e C&&(match P.info? e with|some i=>(match i.zero with|some z=>z.cells.size==i.size|none=>false)|none=>false)
   | none=>false)&&(qad P F||(zS P F).isSome)
  | _,_=>false)
 | .append,[s,x],.appZ D C z G E=>qA s G&&qA x E&&(match A[0]?,A[1]? with
  | some H,some F=>(match zS P H with|some e=>qZ P e D&&qbE P e C&&qah P e z|none=>false)&&qkV P F
  | _,_=>false)
 | .copy,[d,s],.copy D K G=>qA d K&&qA s G&&(A[1]?).isSome&&(match (A[0]?).bind (zS P)with|some e=>qZ P e D|none=>false)
 | .max,[x,y],.max E J=>qA x E&&qA y J
 | .min,[x,y],.min E J=>qA x E&&qA y J
 | .clear,[x],.clear z y=>qA x y&&(match (A[0]?).bind (zS P)with|some e=>qah P e z|none=>false)
 | _,_,_=>false
def qmw(P:Program)(f:Option Field)(off:Nat)(n:Option Nat):Bool :=
 match f,n with
 | some z,none=>z.offset==off && !wi P z.type&&(P.underlying z.type).isSome
 | some z,some n=>z.offset==off&&wi P z.type&&qZ P z.type n
 | none,_=>false
def qjM(P:Program)(o:Op)(r:IOp):Bool :=
 match o,r with
 | .move x,.mov y | .assign x,.mov y=>qA x y
 | .pick c a b,.pick M W b'=>qA c M&&qA a W&&qA b b'
 | .alloc t,.alloc z=>qah P t z
 | .box _ x,.box y=>qA x y
 | .build t R,.build z U=>qah P t z&&(match P.underlying t with
  | some (.struct Q)=>qat (λi=>(Q[i]?).bind λf=>(P.info? f.type).map λj=>(f.offset,j.size)) R.toList U&&Q.toList.all λf=>(P.info? f.type).isSome
  | some (.array _ e)=>(match P.info? e with|some j=>qat (λi=>some (i*j.size,j.size)) R.toList U|none=>false)
  | _=>false)
 | .buildSlice t n R,.buildS m z U=>n==m&&(match zS P t with
  | some e=>qah P e z&&decide (n*z.length<=16777216)&&(match P.info? e with|some j=>qat (λi=>some (i*j.size,j.size)) R.toList U|none=>false)
  | none=>false)
 | .load t x,.load1 y=>qA x y && !wi P t&&(P.underlying t).isSome
 | .load t x,.loadN n y=>qA x y&&wi P t&&qZ P t n
 | .store t x v,.store n A v'=>qA x A&&qA v v'&&qZ P t n
 | .store t x v,.storeD n A v' _=>qA x A&&qA v v'&&qZ P t n
 | .nilCheck x,.nilChk y=>qA x y
 | .binOp op t x y _,.bin L A N=>decide (op=L)&&qA x A&&qA y N&&qEo P t
 | .binOp .eql t x y _,.eqB D A N=>!D&&qA x A&&qA y N&&qka P t
 | .binOp .neq t x y _,.eqB D A N=>D&&qA x A&&qA y N&&qka P t
 | .binOp .eql t x y _,.eqN D q A=>!D&&((qA x A&&qe0 q y)||(qA y A&&qe0 q x))&&qvv P q t
 | .binOp .neq t x y _,.eqN D q A=>D&&((qA x A&&qe0 q y)||(qA y A&&qe0 q x))&&qvv P q t
 | .unOp op _ x,.un L y=>decide (op=L)&&qA x y
 | .convert s d x,.cvInt k y=>qA x y&&(P.underlying s).isSome&&qq4 P d k
 | .convert s d x,.cvR y=>qA x y&&(match P.underlying s with|some (.int _)=>true|_=>false)&&qad P d
 | .range t x,.rngE y=>qA x y&&(qhH P t).isSome
 | .next x false,.nxtE y=>qA x y
 | .convert s d x,.s2b y=>qA x y&&qad P s&&(match zS P d with|some e=>qq4 P e .u8|none=>false)
 | .convert s d x,.b2s y=>qA x y&&qad P d&&(match zS P s with|some e=>qq4 P e .u8|none=>false)
 | .fieldAddr t x f,.fAddr J y=>qA x y&&(match qdQ P t with|some Q=>(match Q[f]? with|some fd=>fd.offset==J && !qZ P fd.type 0&&(P.info? fd.type).isSome|none=>false)|none=>false)
 | .field t x f,.fld J n y=>qA x y&&qmw P ((qdQ P t).bind (·[f]?)) J n
 | .indexAddr t x H,.iAddrA len C A E=>qA x A&&qA H E&&(match qgW P t with|some (n,e)=>n==len&&qZ P e C|none=>false)
 | .indexAddr t x H,.iAddrS C A E=>qA x A&&qA H E&&(match zS P t with|some e=>qZ P e C|none=>false)
 | .index t x H,.idxA len C agg A E=>qA x A&&qA H E&&(match qgW P t with|some (n,e)=>n==len&&qZ P e C&&wi P e==agg&&(P.underlying e).isSome|none=>false)
 | .index t x H,.idxS A E=>qA x A&&qA H E&&qad P t
 | .slice t x lo hi mx,.slcS C A F G K=>qA x A&&jY lo F&&jY hi G&&jY mx K&&(match zS P t with|some e=>qZ P e C|none=>false)
 | .slice t x lo hi none,.slcStr A F G=>qA x A&&jY lo F&&jY hi G&&qad P t
 | .slice t x lo hi mx,.slcA len C A F G K=>qA x A&&jY lo F&&jY hi G&&jY mx K&&(match qgW P t with|some (n,e)=>n==len&&qZ P e C|none=>false)
 | .extract x i,.ext y j=>qA x y&&i==j
 | .makeFunc (.func f) a c,.mkF g W M=>f==g&&qfi a.toList W&&qfi c.toList M
 | .makeSlice t l c,.mkS C I z l' M=>qA l l'&&qA c M&&(match zS P t with|some e=>qZ P e C&&qbE P e I&&qah P e z|none=>false)
 | .makeMap _ none,.mkM=>true
 | .makeMap t (some (.const (.int _ _))),.mkM=>(qhH P t).isSome
 | .lookup t x i ok,.lookM kd ok' z A E=>qA x A&&qA i E&&ok==ok'&&qi5 P t kd&&(match qhH P t with|some (_,e)=>qsW P e z|none=>false)
 | .mapUpdate t m i v,.updM kd Y E v'=>qA m Y&&qA i E&&qA v v'&&qi5 P t kd
 | .insert t m i v,.updM kd Y E v'=>qA m Y&&qA i E&&qA v v'&&qi5 P t kd
 | _,.no=>true
 | .range t x,.rangeS y=>qA x y&&qad P t
 | .next x true,.nextS y=>qA x y
 | .call { callee:=.builtin b,args,argTypes },r=>qdM P b argTypes args.toList r
 | _,_=>false
def qg2(P:Program)(o:Op)(r:RK):Bool :=
 match o,r with
 | .call { callee:=.value (.func f),args,.. },.callF g z=>f==g&&qfi args.toList z
 | .call { callee:=.value x,args,.. },.callV y z=>qA x y&&qfi args.toList z
 | .call { callee:=.value (.func f),args,.. },.callW g z=>f==g&&qfi args.toList z
 | .call { callee:=.value x,args,.. },.callVW y z=>qA x y&&qfi args.toList z
 | o,.op r=>qjM P o r
 | _,_=>false
def TR(σ:Nat->Value)(Z:Ren)(t:Tr AV)(z:Array Value):Prop:=∀n v,t.get n=some v->n<z.size/\VR σ Z v (z.getD n undef)
omit [Cur] in
theorem TR.mono{t:Tr AV}{z:Array Value}(h:TR σ Z t z)(A:Z.le Z'):TR σ Z' t z :=
 λn v d=>⟨(h n v d).1,(h n v d).2.mono A⟩
def qR{t:Tr AV}{a:Act}(z:TR σ Z t a.tmps){x:O}{y:Operand}(hc:qA y x=true){k:AV->Prop}(h:evK t x k):∃v,k v/\VR σ Z v (a.eval y):=by
 cases x with
 | t n =>
  obtain⟨v,d,hk⟩:=(Tr.getK_iff _ _ _).1 h;cases y<;>simp[qA]at hc;subst hc;exact⟨v,hk,(z _ v d).2⟩
 | c v =>
  refine⟨v,h,?_⟩;cases y with
  | tmp n=>simp[qA]at hc
  | const u=>exact qp2 v u (by simpa[qA]using hc)
  | global g=>simp[qA]at hc
  | func f =>
   have:v = .fn f [] []:=by
    unfold qA at hc;split at hc<;>simp_all
   subst this;exact .fn _ _ _ _ _ .nil .nil
def qi8{t:Tr AV}{a:Act}(E:TR σ Z t a.tmps):∀{C:List O}{D:List Operand}(_:qfi D C=true) {k:List AV->Prop}(_:ww t C k),∃d,k d/\VRs σ Z d (D.map a.eval)
 | [],[],_,_,h=>⟨[],h,.nil⟩
 | x::C,y::D,z,k,h=>by
  simp[qfi]at z;obtain⟨v,F,H⟩:=qR E z.1 h;obtain⟨d,G,A⟩:=qi8 E z.2 F;exact⟨v::d,G,.cons _ _ _ _ H A⟩
 | [],_::_,z,_,_=>by simp[qfi]at z
 | _::_,[],z,_,_=>by simp[qfi]at z
end
section
variable [Cur]
variable {σ:Nat->Value}{Z Z':Ren}{P:Program}
def jX(σ:Nat->Value):Prop:=∀j,(σ j).oneCell'=true
omit [Cur] in
theorem qkL(z:jX σ){v:AV}{v':Value}(h:VR σ Z v v')(d:zt v=true):v'.oneCell'=true:=by
 cases h<;>first|rfl|(exact z _)|(exact absurd d (by simp[zt]))
omit [Cur] in
def qfX(C:jX σ):∀{d:List AV}{z:List Value}(_:VRs σ Z d z) (_:qF d=true),∀v ∈ z,v.oneCell'=true
 | [],_,.nil,_=>by simp
 | v::d,_,.cons _ _ v' z h F,G=>by
  have D:zt v=true/\qF d=true:=by
   have:(Bool.rec (motive:=λ_=>Bool) true (qF d) (zt v):Bool)=true\/True:=Or.inr trivial
   have E:(Bool.rec (motive:=λ_=>Bool) false (qF d) (zt v):Bool)=true:=G
   cases H:zt v<;>simp_all
  intro u A;rcases zzc.1 A with rfl|A
  .grind[qkL]
  .exact qfX C F D.2 u A
omit [Cur] in
theorem qbD{w:World}{k:Nat}{c:Array Value}{ty:TypeId}{fz:Nat×Nat}(h:w.heap[k]?=some (.cells c ty fz))(o:Nat):w.cell? ⟨k,o,none⟩=c[o]?:=by
 simp[World.cell?,h]
omit [Cur] in
def qi9{w:World}{k:Nat}{c:Array Value}{ty:TypeId}{fz:Nat×Nat}(h:w.heap[k]?=some (.cells c ty fz))(o:Nat):w.frozen? ⟨k,o,none⟩=decide (fz.1<=o/\o<fz.2):=by
 simp[World.frozen?,h]
omit [Cur] in
theorem x7(k o n:Nat):(⟨k,o,none⟩:Addr).add n=⟨k,o+n,none⟩:=by
 unfold Addr.add;split<;>simp_all
def qEc{B:Nat->Prop}{h:Hp}{w:World}(r:Rel σ Z B h w){b off:Nat}{L:Loc}(F:Z b=some L){k:AV->Prop}(z:ldK h b off k) :
  ∃v v',k v/\VR σ Z v v'/\w.cell? ⟨L.blk,L.off+off,none⟩=some v':=by
 obtain⟨e,C,E,D,A,d⟩:=(zh _ _ _).1 z;obtain⟨v,G,z⟩:=(jn _ _ _).1 d;obtain⟨_,c,I,fz,H,_,_,J,_⟩:=r.cells b L e C E D F A
 grind[qbD]
def qe3{B:Nat->Prop}{h:Hp}{w:World}(r:Rel σ Z B h w){b off n:Nat}{L:Loc}(J:Z b=some L){k:List AV->Prop}(C:qb4 h b off n k) :
  ∃E z,k E/\VRs σ Z E z/\z.length=n/\(∀j v,z[j]?=some v->w.cell? ⟨L.blk,L.off+off+j,none⟩=some v):=by
 obtain⟨e,G,I,H,F,A⟩:=(zh _ _ _).1 C;obtain⟨R,A⟩:=(zP _ _ _).1 A;obtain⟨D,C⟩:=(zk _ _ _).1 A;rw[List.length_drop]at D;obtain⟨_,c,U,fz,Q,W,Y,N,_⟩:=r.cells b L e G I H J F;refine⟨_,((c.toList.drop (L.off+off)).take n),C,?_,?_,?_⟩
 .refine VRs.of_get ?_ ?_
  .simp;exact Ac
  .intro j a d;rw[List.getElem?_take]at d;split at d
   .rw[zzp]at d;obtain⟨v',K,M⟩:=N _ _ d;refine⟨v',?_,M⟩;rw[zzq (by assumption),zzp];rw[Array.getElem?_toList,<- K];congr 1;exact Ac
   .cases d
 all_goals grind[qbD]
def qF9{B:Nat->Prop}{h:Hp}{w:World}(r:Rel σ Z B h w){p:AV}{D:Value}(K:VR σ Z p D){k:AV->Prop}(z:ldV h p k) :
  ∃c o v v',D = .pointer (some ⟨c,o,none⟩)/\k v/\VR σ Z v v'/\w.cell? ⟨c,o,none⟩=some v':=by
 cases K<;>try exact z.elim
 .rename_i b o L J;obtain⟨v,v',E,F,G⟩:=qEc r J z
  exact Ah
 .rename_i A d N c C M H;obtain⟨v,I,z⟩:=(jn _ _ _).1 z;obtain⟨v',E,F⟩:=H.get I;obtain⟨⟨Q,fz,G⟩,_⟩:=r.frz c C M;refine⟨c,d+A,v,v',rfl,z,F.vr,?_⟩;rw[qbD G];rw[List.getElem?_take]at E
  exact Ad
def qB8{B:Nat->Prop}{h:Hp}{w:World}(r:Rel σ Z B h w){p:AV}{G:Value}(J:VR σ Z p G){n:Nat}{k:List AV->Prop}(d:qlK h p n k) :
  ∃c o D z,G = .pointer (some ⟨c,o,none⟩)/\k D/\VRs σ Z D z/\z.length=n/\(∀j v,z[j]?=some v->w.cell? ⟨c,o+j,none⟩=some v):=by
 cases J<;>try exact d.elim
 .rename_i b o L K;obtain⟨D,z,M,I,N,R⟩:=qe3 r K d
  exact Ah
 .rename_i A C U c E Q F;obtain⟨M,d⟩:=(zP _ _ _).1 d;obtain⟨I,d⟩:=(zk _ _ _).1 d;obtain⟨⟨W,fz,N⟩,_⟩:=r.frz c E Q;rw[List.length_drop]at I;have H:=F.length;refine⟨c,C+A,_,_,rfl,d,((F.drop A).take n).vr,?_,?_⟩
  all_goals grind[qbD]
omit [Cur] in
theorem qcD{w:World}{k o n:Nat}{vs:List Value}(z:vs.length=n)(h:∀j v,vs[j]?=some v->w.cell? ⟨k,o+j,none⟩=some v) :
  (loadCells ⟨k,o,none⟩ n).run P w = .ok vs.toArray w:=by
 grind[Go.run_loadCells_list,x7]
omit [Cur] in
def qdu{k:Nat}{ty:TypeId}{fz:Nat×Nat}:∀(z:List Value) (o:Nat) (w:World) (c:Array Value),w.heap[k]?=some (.cells c ty fz)->o+z.length<=c.size->
  ∃d,Spl c o z d/\(w.setCells k o z).heap=w.heap.setIfInBounds k (.cells d ty fz)
 | [],o,w,c,h,_=>by
  refine⟨c,⟨rfl,λ_ _=>rfl,Ad⟩,?_⟩
  show w.heap=_
  exact Ah
 | v::z,o,w,c,h,I=>by
  simp only[zze]at I;have E:k<w.heap.size:=Ah
  have D:(w.setCell ⟨k,o,none⟩ v).heap=w.heap.setIfInBounds k (.cells (c.setIfInBounds o v) ty fz):=by
   simp only[World.setCell]
   exact Ah
  have F:(w.setCell ⟨k,o,none⟩ v).heap[k]?=some (.cells (c.setIfInBounds o v) ty fz):=by
   rw[D,zzw];exact Ah
  obtain⟨d,A,G⟩:=qdu z (o+1) _ _ F Ah;refine⟨d,⟨by rw[A.size];simp,?_,?_⟩,?_⟩
  .intro j H;simp only[zze]at H;rw[A.out j Ac,zzw,if_neg Ac]
  .intro j u C;cases j with
   | zero =>
    simp at C;subst C;rw[A.out _ Ac,zzw];exact Ah
   | succ j =>
    have:=A.inn j u Ad;rwa [show o+1+j=o+(j+1)from Ac]at this
  .rw[World.setCells,G,D]
   exact Ad
omit [Cur] in
def qeM(k:Nat):∀(z:List Value) (o:Nat) (w:World),(w.setCells k o z).os=w.os/\(w.setCells k o z).output=w.output
 | [],_,_=>⟨rfl,rfl⟩
 | v::z,o,w=>qeM k z (o+1) (w.setCell ⟨k,o,none⟩ v)
def quc(G:jX σ){B:Nat->Prop}{h:Hp}{w:World}(r:Rel σ Z B h w){b off:Nat}{L:Loc}(M:Z b=some L){vs:List AV}{vs':List Value}(D:VRs σ Z vs vs'){k:Hp->Prop}(C:stK h b off vs k) :
  ∃H F,k H/\Rel σ Z B H F/\Kept Z B h w Z H F/\(storeCells ⟨L.blk,L.off+off,none⟩ vs').run P w = .ok () F:=by
 obtain⟨e,R,K,N,J,hn⟩:=(zh _ _ _).1 C;cases R with
 | false=>exact Ad
 | true =>
  have d:(Bool.rec (motive:=λ_=>Prop) False (jB vs off N (λE=>jG h b (.cells e true K E) k)) (qF vs):Prop):=hn
  cases z:qF vs with
  | false=>rw[z]at d;exact Ad
  | true =>
   rw[z]at d;obtain⟨Y,I⟩:=(jW _ _ _ _).1 d;obtain⟨U,C⟩:=(xb _ _ _ _).1 I;obtain⟨_,c,ty,fz,A,h2,h3,h4,h5⟩:=r.cells b L e true K N M J;have Q:=D.length;obtain⟨c',hs,W⟩:=qdu vs' (L.off+off) w c A Ac;obtain⟨r',k'⟩:=r.store M J U off vs vs' D Y A hs W (qeM _ _ _ _);refine⟨_,w.setCells L.blk (L.off+off) vs',C,r',k',?_⟩
   have:=run_storeCells_cells (P:=P) L.blk (L.off+off) vs' 0 w (λj hj=>by
     rw[qbD A];simp;exact Ac) (λj hj=>by
     rw[qi9 A];simp only[decide_eq_false_iff_not];exact h5 (by simp) _ Ac) (qfX G D z)
   exact Ac
def qeb{B:Nat->Prop}{h:Hp}{w w1:World}(r:Rel σ Z B h w){e:Nat}{D E:Bool}{d:List AV}{c:Array Value}{ty:TypeId}(J:∃z:List Value,c.toList=z/\VRs σ Z d (z.take d.length))
  {k:Nat->Hp->Prop}(K:x6 h (.cells e D E d) k) {fz:Nat×Nat}(G:w1.heap=w.heap.push (.cells c ty fz)) (A:∀j,(j<c.size\/(e=0/\j=c.size))->¬(fz.1<=j/\j<fz.2):=by intro j _ H;exact absurd H.2 (Nat.not_lt_zero _)) (hio:w1.os=w.os/\w1.output=w.output:=by exact⟨rfl,rfl⟩) :
  ∃Z' C,k h.sz C/\Rel σ Z' B C w1/\Kept Z B h w Z' C w1/\Z' h.sz=some ⟨w.heap.size,0,c.size,e⟩:=by
 obtain⟨z,rfl,F⟩:=J;have I:=F.length;simp at I;obtain⟨M,L⟩:=r.push e D E d c ty fz A G hio Ac (by grind[VRs.get])
 grind[zD,Ren.add_self]
def Res(P:Program)(σ:Nat->Value)(Z:Ren)(B:Nat->Prop)(h:Hp)(w:World)(s:Sem Next)(k:AV->Hp->Prop):Prop :=
 ∃v v' d Z' z,k v d/\(s.run P w = .ok (.value v') z\/(s.run P w = .ok .skip z/\v'=undef))/\VR σ Z' v v'/\Rel σ Z' B d z/\Kept Z B h w Z' d z
theorem Res.pure{B:Nat->Prop}{h:Hp}{w:World}(r:Rel σ Z B h w){s:Sem Next}{k:AV->Hp->Prop}{v:AV}{v':Value}(d:k v h)(z:s.run P w = .ok (.value v') w)(A:VR σ Z v v'):Res P σ Z B h w s k :=
 ⟨v,v',h,Z,w,d,.inl z,A,r,Kept.refl _ _ _ _⟩
structure OrcOk (P:Program) (σ:Nat->Value) (orc:Orc):Prop where
 atoms:jX σ
 bin:∀op x y r,orc.bin op x y=some r->∀Z x' y',VR σ Z x x'->VR σ Z y y'->∃r',VR σ Z r r'/\∀(P:Program) t w,(binOp op t x' y').run P w = .ok r' w
 len:∀j r,orc.len j=some r->∃s,σ j = .string s/\∀Z,VR σ Z r (.int .i64 s.size)
 cv:∀q j r,orc.cv q j=some r->∃k n,σ j = .int k n/\∀Z,VR σ Z r (.int q (q.wrap n))
 prim:∀j,(∃k n,σ j = .int k n)\/(∃s,σ j = .string s)\/(∃b,σ j = .bool b)
omit [Cur] in
def qgn{r r':Bool}(h:r=r'):VR σ Z (.b r) (.bool r'):=by subst h;exact .b _
omit [Cur] in
def qu9{op:BinOp}{q:IntKind}{x y:Int}{k:AV->Prop}(h:xy op q x y k)(t:TypeId)(w:World) :
  ∃r r',k r/\VR σ Z r r'/\(binOp op t (.int q x) (.int q y)).run P w = .ok r' w:=by
 have hne:∀{y:Int}{A:Prop},(Bool.rec (motive:=λ_=>Prop) A False (eqI y 0):Prop)->A/\y≠0:=by
  intro y A z;rw[qi7]at z;cases d:(y==0)<;>simp_all
 cases op<;>simp only[xy,zH,qV,qeh]at h
 case add=>exact⟨_,_,h,.i _ _,by simp[binOp,Op.intArith]⟩
 case sub=>exact⟨_,_,h,.i _ _,by simp[binOp,Op.intArith];rfl⟩
 case mul=>exact⟨_,_,h,.i _ _,by simp[binOp,Op.intArith]⟩
 case quo=>exact F3
 case rem=>exact F3
 case and=>exact Dk
 case or=>exact Dk
 case xor=>exact Dk
 case andNot=>exact Dk
 case eql=>exact⟨_,_,h,qgn (qi7 x y),Do⟩
 case neq=>exact⟨_,_,h,qgn (r':=x != y) (by rw[qi7];rfl),Do⟩
 case lss=>exact⟨_,_,h,qgn (qde x y),Do⟩
 case leq=>exact⟨_,_,h,qgn (r':=decide (x<=y)) (by rw[qde,<- decide_not];simp),Do⟩
 case gtr=>exact⟨_,_,h,qgn (qde y x),Do⟩
 case geq=>exact⟨_,_,h,qgn (r':=decide (y<=x)) (by rw[qde,<- decide_not];simp),Do⟩
omit [Cur] in
def qzS{op:BinOp}(d:op = .shl\/op = .shr){q q':IntKind}{x y:Int}{k:AV->Prop}(h:qk9 op q x y k)(t:TypeId)(w:World) :
  ∃r z,k r/\VR σ Z r z/\(binOp op t (.int q x) (.int q' y)).run P w = .ok z w:=by
 cases y with
 | negSucc m=>exact h.elim
 | ofNat m =>
  have hn:¬((m:Int)<0):=Ac
  rcases d with rfl|rfl
  .have h':(qq (min m q.bits) (λn=>xY (q.wrap (x*p2 n)) (λr=>k (.i q r)))):=h
   exact Gt
  .have h':(qq (min m q.bits) (λn=>xY (x.fdiv (p2 n)) (λr=>k (.i q r)))):=h
   exact Gt
omit [Cur] in
def qvX{op:BinOp}{x y:List UInt8}{k:AV->Prop}(h:qbZ op x y k)(t:TypeId)(w:World) :
  ∃r r',k r/\VR σ Z r r'/\(binOp op t (.string ⟨x.toArray⟩) (.string ⟨y.toArray⟩)).run P w = .ok r' w:=by
 have tl:∀l:List UInt8,(⟨l.toArray⟩:ByteArray).toList=l:=Ad
 cases op<;>simp only[qbZ,qV]at h<;>try exact h.elim
 case add =>
  rw[qei]at h
  by_cases z:x.length+y.length<=9223372036854775807
  .simp only[z,decide_true]at h;refine⟨_,_,h,.s _,?_⟩
   have d:¬(IntKind.max .i64<(((⟨x.toArray⟩:ByteArray).size+(⟨y.toArray⟩:ByteArray).size:Nat):Int)):=by
    show¬((9223372036854775807:Int)<((x.length+y.length:Nat):Int));exact Ac
   simp only[binOp,Op.stringOp];rw[if_neg d];simp only[Sem.run_pure]
   congr 2
  exact Ad
 case eql=>exact⟨_,_,h,qgn (qcg x y),Ct⟩
 case neq=>exact⟨_,_,h,qgn (r':=!(x==y)) (by rw[qcg]),Ct⟩
 case lss=>exact⟨_,_,h,qgn (qkY x y),Ct⟩
 case leq=>exact⟨_,_,h,qgn (r':=(Op.bytesLess x y||x==y)) (by rw[qkY,qcg]),Ct⟩
 case gtr=>exact⟨_,_,h,qgn (r':=!(Op.bytesLess x y||x==y)) (by rw[qkY,qcg]),Ct⟩
 case geq=>exact⟨_,_,h,qgn (r':=!(Op.bytesLess x y)) (by rw[qkY]),Ct⟩
omit [Cur] in
def qt{t:TypeId}{d:TypeDesc}(h:P.underlying t=some d)(w:World):(underlying t).run P w = .ok d w:=run_underlying h w
omit [Cur] in
def qdC{t:TypeId}(h:(P.underlying t).isSome=true)(w:World):(isAgg t).run P w = .ok (wi P t) w:=by
 obtain⟨d,hd⟩:=zzx.1 h;unfold isAgg wi;simp only[Sem.run_bind,qt hd,Result.andThen_ok,hd];cases d<;>rfl
omit [Cur] in
def qlt{t:TypeId}(h:wi P t=true):(P.underlying t).isSome=true:=by
 unfold wi at h;split at h<;>simp_all
omit [Cur] in
def qla{t:TypeId}{n:Nat}(h:qZ P t n=true):∃i,P.info? t=some i/\i.size=n:=by
 unfold qZ at h
 exact Ah
omit [Cur] in
def qi2{t:TypeId}{n:Nat}(h:qbE P t n=true):∃i,P.info? t=some i/\i.bytes=n:=by
 unfold qbE at h
 exact Ah
omit [Cur] in
def qx6{t:TypeId}{i:TypeInfo}(h:P.info? t=some i)(w:World):(typeInfo t).run P w = .ok i w:=by
 simp[typeInfo,h]
omit [Cur] in
def zM{t:TypeId}{n:Nat}(h:qZ P t n=true)(w:World):(sizeOf t).run P w = .ok n w:=by
 obtain⟨i,hi,rfl⟩:=qla h;simp[sizeOf,typeInfo,hi]
omit [Cur] in
def qdH{t:TypeId}{z:List AV}(h:qah P t z=true):∃i v,P.info? t=some i/\i.zero=some v/\qnB z v.cells.toList=true/\v.cells.size=i.size:=by
 unfold qah at h
 exact Ah
omit [Cur] in
def qc3{t:TypeId}{i:TypeInfo}{v:Value}(h:P.info? t=some i)(z:i.zero=some v)(w:World):(zeroValue t).run P w = .ok v w:=by
 simp[zeroValue,typeInfo,h,z]
omit [Cur] in
def zo{t e:TypeId}(h:zS P t=some e):P.underlying t=some (.slice e):=by
 unfold zS at h;exact Ah
omit [Cur] in
def qdL{t:TypeId}{n:Nat}{e:TypeId}(h:qgW P t=some (n,e)):P.underlying t=some (.array n e):=by
 unfold qgW at h;exact Ah
omit [Cur] in
def qeR{t:TypeId}{z:Array Field}(h:qdQ P t=some z):P.underlying t=some (.struct z):=by
 unfold qdQ at h;exact Ah
omit [Cur] in
def xZ{t:TypeId}(h:qad P t=true):P.underlying t=some .string:=by
 unfold qad at h;exact Ah
omit [Cur] in
def qh5{t:TypeId}{k:IntKind}(h:qq4 P t k=true):P.underlying t=some (.int k):=by
 unfold qq4 at h;exact Ah
omit [Cur] in
def qkn{t:TypeId}(d:Array Value)(off:Nat)(w:World) :
  (∀{v},wi P t=false->(P.underlying t).isSome=true->d[off]?=some v->(part t d off).run P w = .ok v w) /\
  (∀{n},wi P t=true->qZ P t n=true->(part t d off).run P w = .ok (.agg (d.extract off (off+n))) w):=by
 constructor
 .intro v z A C;simp[part,qdC A,z,C]
 .intro n z A;simp[part,qdC (qlt z),z,zM A]
omit [Cur] in
def VR.un_b{x:Bool}{v:Value}(h:VR σ Z (.b x) v):v = .bool x:=by cases h;rfl
omit [Cur] in
def VR.un_i{q:IntKind}{n:Int}{v:Value}(h:VR σ Z (.i q n) v):v = .int q n:=by cases h;rfl
omit [Cur] in
def VR.un_s{x:List UInt8}{v:Value}(h:VR σ Z (.s x) v):v = .string ⟨x.toArray⟩:=by cases h;rfl
omit [Cur] in
def VR.un_ptr{b o:Nat}{v:Value}(h:VR σ Z (.ptr b o) v):∃L,Z b=some L/\v = .pointer (some ⟨L.blk,L.off+o,none⟩):=by cases h<;>simp_all
omit [Cur] in
def VR.un_sl{b o len cap:Nat}{l:Bool}{v:Value}(h:VR σ Z (.sl b o len cap l) v):∃L c z,Z b=some L/\v = .slice (some ⟨L.blk,z,none⟩) len c /\
  ((z=L.off+o/\(c=cap\/(l=true/\cap<=c/\L.off+o+c*L.esz<=L.size)))\/(len=0/\cap=0/\c=0)):=by
 cases h<;>grind
omit [Cur] in
def VR.un_agg{z:List AV}{v:Value}(h:VR σ Z (.agg z) v):∃d:Array Value,VRs σ Z z d.toList/\v = .agg d:=by cases h<;>simp_all
omit [Cur] in
theorem VR.un_tup{z:List AV}{v:Value}(h:VR σ Z (.tup z) v):∃d:Array Value,VRs σ Z z d.toList/\v = .tuple d:=by cases h<;>simp_all
omit [Cur] in
def VR.un_fn{f:Nat}{a c:List AV}{v:Value}(h:VR σ Z (.fn f a c) v):∃d z:Array Value,VRs σ Z a d.toList/\VRs σ Z c z.toList/\v = .func (.func f) d z:=by cases h<;>simp_all
omit [Cur] in
def VR.un_yl{b:Nat}{v:Value}(h:VR σ Z (.yl b) v):∃L,Z b=some L/\v = .func (.yield L.blk) #[] #[]:=by cases h<;>simp_all
omit [Cur] in
def VR.un_map{b:Nat}{v:Value}(h:VR σ Z (.map b) v):∃L,Z b=some L/\L.off=0/\v = .map (some L.blk):=by cases h<;>simp_all
omit [Cur] in
theorem VR.un_nils{v:Value}(h:VR σ Z .nils v):v = .slice none 0 0:=by cases h;rfl
omit [Cur] in
def VR.un_fz{n:Nat}{A:List AV}{v:Value}(h:VR σ Z (.fz n A) v):(∃k z c d,v = .slice (some ⟨k,z,none⟩) n c/\n<=c/\Z.frz k=some d/\CRs σ Z.frz A ((d.toList.drop z).take A.length))\/(n=0/\A=[]/\∃a,v = .slice a 0 0):=by
 cases h<;>grind
omit [Cur] in
def VR.un_pf{off:Nat}{A:List AV}{v:Value}(h:VR σ Z (.pf A off) v):∃k z d,v = .pointer (some ⟨k,z+off,none⟩)/\Z.frz k=some d/\CRs σ Z.frz A ((d.toList.drop z).take A.length):=by
 cases h<;>grind
omit [Cur] in
def VR.un_nz{v:Value}(h:VR σ Z .nz v):∃a c,v = .slice (some a) 0 c:=by cases h<;>simp_all
omit [Cur] in
theorem VR.un_e0{v:Value}(h:VR σ Z .e0 v):∃a,v = .slice a 0 0:=by cases h<;>simp_all
omit [Cur] in
def VR.un_own{b n:Nat}{v:Value}(h:VR σ Z (.own b n) v):(n=0/\(∃a,v = .slice a 0 0)/\b<Z.n)\/∃L c,Z b=some L/\n<=c/\L.off+c*L.esz<=L.size/\v = .slice (some ⟨L.blk,L.off,none⟩) n c:=by
 cases h<;>simp_all
omit [Cur] in
def qtC{p:AV}{F:Value}(E:VR σ Z p F){n:Nat}{k:AV->Prop}(z:qjg p n k):∃c o v,F = .pointer (some ⟨c,o,none⟩)/\k v/\VR σ Z v (.pointer (some ⟨c,o+n,none⟩)):=by
 cases p<;>try exact z.elim
 .obtain⟨L,A,D⟩:=E.un_ptr;simp only[qjg,qy]at z;exact⟨_,_,_,D,z,by rw[Nat.add_assoc];exact .ptr _ _ L A⟩
 .obtain⟨c,d,C,A,D,G⟩:=E.un_pf;simp only[qjg,qy]at z;exact⟨_,_,_,A,z,by rw[Nat.add_assoc];exact .pf _ d _ c C D G⟩
omit [Cur] in
def VR.un_sym{j:Nat}{v:Value}(h:VR σ Z (.sym j) v):v=σ j:=by cases h;rfl
def qny{v:AV}{v':Value}(h:VR σ Z v v'){k:Bool->Prop}(z:unB v k):∃x,v' = .bool x/\k x:=by
 cases v<;>first|exact z.elim|exact⟨_,h.un_b,z⟩
omit [Cur] in
def qp0{v:AV}{v':Value}(h:VR σ Z v v'){k:IntKind->Int->Prop}(z:unI v k):∃q x,v' = .int q x/\k q x:=by
 cases v<;>first|exact z.elim|exact⟨_,_,h.un_i,z⟩
omit [Cur] in
def qeg{v:AV}{v':Value}(h:VR σ Z v v'){k:Nat->Prop}(hk:unN v k):∃q,∃x:Nat,v' = .int q (x:Int)/\k x:=by
 cases v<;>try exact hk.elim
 rename_i q n;cases n with
 | ofNat m=>exact⟨q,m,h.un_i,hk⟩
 | negSucc m=>exact Gy
omit [Cur] in
def qsG{v:AV}{v':Value}(h:VR σ Z v v'){k:Nat->Nat->Prop}(z:unP v k):∃b o L,Z b=some L/\v' = .pointer (some ⟨L.blk,L.off+o,none⟩)/\k b o:=by
 cases v<;>first|exact z.elim|(obtain⟨L,d,A⟩:=h.un_ptr;exact⟨_,_,L,d,A,z⟩)
omit [Cur] in
theorem qc(x:Bool)(k:Prop):qn x k↔x=true/\k:=by
 cases x
 .exact⟨λh=>h.elim,λh=>Ah⟩
 .exact⟨λh=>⟨rfl,h⟩,λh=>h.2⟩
omit [Cur] in
theorem qff(x:Bool)(a b:Prop):(Bool.rec (motive:=λ_=>Prop) a b x)↔(x=false/\a)\/(x=true/\b):=by
 cases x<;>simp
def qCN{t:Tr AV}{a:Act}(A:TR σ Z t a.tmps){x:Option O}{y:Option Operand}(d:jY y x=true){k:Option AV->Prop}(h:qaV t x k) :
  ∃v,k v/\((v=none/\y=none)\/∃u z,v=some u/\y=some z/\VR σ Z u (a.eval z)):=by
 cases x<;>cases y<;>simp[jY]at d
 .exact⟨none,h,.inl ⟨rfl,rfl⟩⟩
 .obtain⟨v,C,D⟩:=qR A d h
  exact Ah
section ops
variable {B:Nat->Prop}{h:Hp}{w:World}{a:Act}{t:Tr AV}{orc:Orc}{k:AV->Hp->Prop}{o:Oper}
def qyH(r:Rel σ Z B h w)(A:TR σ Z t a.tmps){x:O}{y:Operand}(z:o.op = .move y\/o.op = .assign y)(E:qA y x=true)(C:opK orc (.mov x) t h k):Res P σ Z B h w (execOp a.eval o) k:=by
 obtain⟨v,d,D⟩:=qR A E C;exact Res.pure r d (by rcases z with z|z<;>simp[execOp,z]) D
def qCP(r:Rel σ Z B h w)(d:TR σ Z t a.tmps){c x y:O}{F x' y':Operand}(G:o.op = .pick F x' y')(z:qA F c=true)(A:qA x' x=true)(D:qA y' y=true)(J:opK orc (.pick c x y) t h k):Res P σ Z B h w (execOp a.eval o) k:=by
 obtain⟨v,K,L⟩:=qR d z J;obtain⟨b,H,I⟩:=qny L K;cases b with
 | true=>obtain⟨v,C,E⟩:=qR d A I;exact Res.pure r C (by simp[execOp,G,H,asBool]) E
 | false=>obtain⟨v,C,E⟩:=qR d D I;exact Res.pure r C (by simp[execOp,G,H,asBool]) E
def qyx(r:Rel σ Z B h w)(d:TR σ Z t a.tmps){x:O}{ty:TypeId}{y:Operand}(E:o.op = .load ty y)(D:qA y x=true)(h1:wi P ty=false)(H:(P.underlying ty).isSome=true)(A:opK orc (.load1 x) t h k):Res P σ Z B h w (execOp a.eval o) k:=by
 obtain⟨v,J,K⟩:=qR d D A;obtain⟨c,C,v,v',I,G,F,z⟩:=qF9 r K J;exact Res.pure r G (by simp[execOp,E,I,Instr.loadAt,Instr.sureAddr,loadVar,qdC H,h1,z]) F
def qyz(r:Rel σ Z B h w)(A:TR σ Z t a.tmps){x:O}{n:Nat}{ty:TypeId}{y:Operand}(G:o.op = .load ty y)(F:qA y x=true)(h1:wi P ty=true)(J:qZ P ty n=true)(C:opK orc (.loadN n x) t h k):Res P σ Z B h w (execOp a.eval o) k:=by
 obtain⟨v,L,M⟩:=qR A F C;obtain⟨c,D,N,E,K,I,H,z,d⟩:=qB8 r M L;exact Res.pure r I (by simp[execOp,G,K,Instr.loadAt,Instr.sureAddr,loadVar,qdC (qlt h1),h1,zM J,qcD z d]) (.agg _ _ H)
omit [Cur] in
theorem VRs.cells(J:jX σ){v:AV}{v':Value}(Q:VR σ Z v v')(U:qc7 v=true):VRs σ Z (cellsOf v) v'.cells.toList:=by
 have z:∀{v'},VR σ Z v v'->v'.cells = #[v']->cellsOf v=[v]->VRs σ Z (cellsOf v) v'.cells.toList:=by
  intro v' H K W;rw[K,W];exact .cons _ _ _ _ H .nil
 cases Q with
 | undef=>cases U
 | agg D E H=>exact H
 | sym j =>
  refine z (.sym j) ?_ rfl;have:=J j;cases G:σ j<;>simp[G,Value.oneCell']at this<;>rfl
 | b=>exact z (.b _) rfl rfl
 | i=>exact z (.i _ _) rfl rfl
 | s=>exact z (.s _) rfl rfl
 | nilp=>exact z .nilp rfl rfl
 | ptr b o L h=>exact z (.ptr b o L h) rfl rfl
 | nils=>exact z .nils rfl rfl
 | sl b o len cap c A L h M=>exact z (.sl b o len cap c A L h M) rfl rfl
 | slz b o x l L h=>exact z (.slz b o x l L h) rfl rfl
 | nilf=>exact z .nilf rfl rfl
 | fn f first cap a1 a2 H K=>exact z (.fn f first cap a1 a2 H K) rfl rfl
 | nili=>exact z .nili rfl rfl
 | ifc t v v' h=>exact z (.ifc t v v' h) rfl rfl
 | tup D E h=>exact z (.tup D E h) rfl rfl
 | nilm=>exact z .nilm rfl rfl
 | map b L h N=>exact z (.map b L h N) rfl rfl
 | fz n C c D k d I h G=>exact z (.fz n C c D k d I h G) rfl rfl
 | fz0 a=>exact z (.fz0 a) rfl rfl
 | pf C F D k d h G=>exact z (.pf C F D k d h G) rfl rfl
 | e0 a=>exact z (.e0 a) rfl rfl
 | nz a c=>exact z (.nz a c) rfl rfl
 | own0 b a R=>exact z (.own0 b a R) rfl rfl
 | own b n c L h I M=>exact z (.own b n c L h I M) rfl rfl
 | yl b L h=>exact z (.yl b L h) rfl rfl
def qwi(r:Rel σ Z B h w){z:List AV}{ty:TypeId}(H:o.op = .alloc ty)(E:qah P ty z=true)(C:opK orc (.alloc z) t h k):Res P σ Z B h w (execOp a.eval o) k:=by
 obtain⟨i,v,G,K,M,Q⟩:=qdH E;have D:=qb2 (σ:=σ) (Z:=Z) _ _ M;have N:=D.length;have d:x6 h (.cells 0 true false z) (λb A=>k (.ptr b 0) A):=C
 obtain⟨Z',A,F,L,I,J⟩:=qeb (w1:={ w with heap:=w.heap.push (.cells v.cells ty) }) r (c:=v.cells) Ah d rfl;refine⟨_,_,A,Z',_,F,.inl (?_:_=Result.ok (Next.value (.pointer (some ⟨w.heap.size,0,none⟩))) { w with heap:=w.heap.push (.cells v.cells ty) }),.ptr _ 0 _ J,L,I⟩;simp[execOp,H,Instr.alloc,qc3 G K,newVar,newRow]
def qE7(d:jX σ)(r:Rel σ Z B h w)(A:TR σ Z t a.tmps){x:O}{y:Operand}{ty:TypeId}(G:o.op = .box ty y)(E:qA y x=true)(C:opK orc (.box x) t h k):Res P σ Z B h w (execOp a.eval o) k:=by
 obtain⟨v,z,K⟩:=qR A E C;obtain⟨hd,z⟩:=(qc _ _).1 z;have D:=VRs.cells d K hd;have M:=D.length;obtain⟨Z',I,F,L,H,J⟩:=qeb (w1:={ w with heap:=w.heap.push (.cells (a.eval y).cells ty) }) r (c:=(a.eval y).cells) Ah z rfl;refine⟨_,_,I,Z',_,F,.inl (?_:_=Result.ok (Next.value (.pointer (some ⟨w.heap.size,0,none⟩))) { w with heap:=w.heap.push (.cells (a.eval y).cells ty) }),.ptr _ 0 _ J,L,H⟩;simp[execOp,G,Instr.box,newVar,newRow]
def qrL(d:jX σ)(r:Rel σ Z B h w)(F:TR σ Z t a.tmps){x v:O}{n:Nat}{y u:Operand}{ty:TypeId}(Y:o.op = .store ty y u)(I:qA y x=true)(A:qA u v=true)(M:qZ P ty n=true)(H:opK orc (.store n x v) t h k):Res P σ Z B h w (execOp a.eval o) k:=by
 obtain⟨p,W,h2⟩:=qR F I H;obtain⟨b,Q,L,h3,K,U⟩:=qsG h2 W;obtain⟨q,z,h7⟩:=qR F A U;obtain⟨hd,z⟩:=(qc _ _).1 z;rw[wF]at z;obtain⟨hn,z⟩:=(qc _ _).1 z;have G:=VRs.cells d h7 hd;have hl:=G.length;obtain⟨h',R,J,h9,E,C⟩:=quc (P:=P) d r h3 G z;refine⟨_,_,h',Z,R,J,.inr ⟨?_,rfl⟩,.undef _,h9,E⟩;have N:(cellsOf q).length=n:=Ad
 have D:(a.eval u).cells.size=n:=Ad
 simp[execOp,Y,K,Instr.storeAt,Instr.sureAddr,storeVar,zM M,C,D]
def qvu(r:Rel σ Z B h w)(H:TR σ Z t a.tmps){x:O}{y:Operand}(D:o.op = .nilCheck y)(J:qA y x=true)(I:opK orc (.nilChk x) t h k):Res P σ Z B h w (execOp a.eval o) k:=by
 obtain⟨v,A,E⟩:=qR H J I;cases v<;>try exact A.elim
 .obtain⟨L,z,d⟩:=E.un_ptr;exact Res.pure r A (by simp[execOp,D,d]) (.ptr _ _ L z)
 .obtain⟨N,M,z,d,F⟩:=E.un_fn;exact Res.pure r A (by simp[execOp,D,F]) (.fn _ _ _ _ _ z d)
 .obtain⟨L,z,d,F⟩:=E.un_map;exact Res.pure r A (by simp[execOp,D,F]) (.map _ L z d)
 .obtain⟨c,C,G,z,d,K⟩:=E.un_pf;exact Res.pure r A (by simp[execOp,D,z]) (.pf _ C _ c G d K)
 .obtain⟨L,z,d⟩:=E.un_yl;exact Res.pure r A (by simp[execOp,D,d]) (.yl _ L z)
end ops
omit [Cur] in
theorem qf1{op:BinOp}{t:TypeId}{x y:Operand}{u v:Value}(d:∀A,u≠.agg A)(z:u≠.nilIface)(w:World):(eqGuard op t x y u v).run P w = .ok () w:=by
 cases u<;>first|exact absurd rfl z|exact absurd rfl (d _)|(cases op<;>simp[eqGuard])
omit [Cur] in
def qpp(d:Nat){t:TypeId}(z:P.underlying t=some .bool)(p q:Bool)(w:World):(Op.equalIn (d+1) t (.bool p) (.bool q)).run P w = .ok (p==q) w:=by
 rw[Op.equalIn];simp[qt z]
omit [Cur] in
def qsb{t:TypeId}(z:P.underlying t=some .bool)(p q:Bool)(w:World):(Op.equal t (.bool p) (.bool q)).run P w = .ok (p==q) w:=qpp 9999 z p q w
section ops
variable {B:Nat->Prop}{h:Hp}{w:World}{a:Act}{t:Tr AV}{orc:Orc}{k:AV->Hp->Prop}{o:Oper}
omit [Cur] in
def qAH(Q:OrcOk P σ orc){op:BinOp}{x y:AV}{x' y':Value}(H:VR σ Z x x')(L:VR σ Z y y'){k:AV->Prop}(A:xE orc op x y k){ty:TypeId}(w:World) :
  ∃r d,k r/\VR σ Z r d/\(binOp op ty x' y').run P w = .ok d w/\(∀G,x'≠.agg G)/\x'≠.nilIface:=by
 have D:∀{q:AV}{x y:AV},orc.bin op x y=some q->VR σ Z x x'->VR σ Z y y'->k q->∃r d,k r/\VR σ Z r d/\(binOp op ty x' y').run P w = .ok d w:=by
  grind[OrcOk.bin]
 have z:∀{m:Option AV},qjk m k->∃q,m=some q/\k q:=by
  intro m N;cases m with
  | none=>exact N.elim
  | some q=>exact⟨q,rfl,N⟩
 cases x<;>try exact A.elim
 case i q n =>
  have J:=H.un_i;subst J;cases y<;>try exact A.elim
  case i q' m =>
   have K:=L.un_i;subst K;have U:(∀G,Value.int q n≠.agg G)/\Value.int q n≠.nilIface:=⟨Ad,Ad⟩
   by_cases M:op = .shl\/op = .shr
   .have E:qk9 op q n m k:=by rcases M with rfl|rfl<;>exact A
    obtain⟨r,d,h1,C,I⟩:=qzS (P:=P) (σ:=σ) (Z:=Z) M (q':=q') E ty w
    exact Ah
   .have E:qn (decide (q=q')) (xy op q n m k):=by cases op<;>first|exact A|simp at M
    obtain⟨h1,C⟩:=(qc _ _).1 E;have:q=q':=Eb
    subst this;obtain⟨r,d,h1,C,I⟩:=qu9 (P:=P) (σ:=σ) (Z:=Z) C ty w
    exact Ah
  case sym j =>
   obtain⟨q',h1,C⟩:=z A
   exact Ah
 case s l =>
  have J:=H.un_s;subst J;cases y<;>try exact A.elim
  case s Y =>
   have K:=L.un_s;subst K;obtain⟨r,d,h1,C,I⟩:=qvX (P:=P) (σ:=σ) (Z:=Z) A ty w
   exact Ah
  case sym j =>
   obtain⟨q',h1,C⟩:=z A
   exact Ah
 case sym j =>
  obtain⟨q',h1,C⟩:=z A;obtain⟨r,d,I,R,W⟩:=D h1 H L C;cases H with
  | sym =>
   refine⟨r,d,I,R,W,?_,?_⟩
   .intro G F;have:=Q.atoms j;rw[F]at this;cases this
   .intro F;rcases Q.prim j with⟨_,_,e⟩|⟨_,e⟩|⟨_,e⟩<;>rw[e]at F<;>cases F
omit [Cur] in
theorem qjQ{op:BinOp}{ty d:TypeId}{x y:Operand}{r:Value}(C:o.op = .binOp op ty x y d)(A:(eqGuard op ty x y (a.eval x) (a.eval y)).run P w = .ok () w)(z:(binOp op ty (a.eval x) (a.eval y)).run P w = .ok r w) :
  (execOp a.eval o).run P w = .ok (.value r) w:=by
 simp[execOp,C,A,z]
def qE5(z:OrcOk P σ orc)(r:Rel σ Z B h w)(C:TR σ Z t a.tmps){op:BinOp}{x y:O}{x' y':Operand}{ty F:TypeId}(N:o.op = .binOp op ty x' y' F)(d:qA x' x=true)(A:qA y' y=true)(D:opK orc (.bin op x y) t h k):Res P σ Z B h w (execOp a.eval o) k:=by
 obtain⟨u,H,I⟩:=qR C d D;obtain⟨v,K,E⟩:=qR C A H;obtain⟨q,L,G,J,M,R,Q⟩:=qAH (P:=P) z I E K (ty:=ty) w;exact Res.pure r G (by grind[qjQ,qf1]) J
def qxv(r:Rel σ Z B h w)(G:TR σ Z t a.tmps){z:Bool}{op:BinOp}(A:(op = .eql/\z=false)\/(op = .neq/\z=true)){x y:O}{x' y':Operand}{ty M:TypeId}(R:o.op = .binOp op ty x' y' M)(d:qA x' x=true)(C:qA y' y=true)(D:qka P ty=true)(J:opK orc (.eqB z x y) t h k):Res P σ Z B h w (execOp a.eval o) k:=by
 obtain⟨u,N,U⟩:=qR G d J;obtain⟨v,W,K⟩:=qR G C N;obtain⟨p,E,L⟩:=qny U W;obtain⟨q,Q,H⟩:=qny K L
 have I:P.underlying ty=some .bool:=by
  unfold qka at D;split at D
  .assumption
  .cases D
 rw[qV]at H;refine Res.pure r H (qjQ (r:=.bool (xor z (p==q))) R (qf1 (by rw[E];intro _ F;cases F) (by rw[E];intro F;cases F) w) ?_) (.b _);rw[E,Q];rcases A with⟨rfl,rfl⟩|⟨rfl,rfl⟩<;>simp[binOp,qsb I]
def qKY(r:Rel σ Z B h w)(D:TR σ Z t a.tmps){op:UnOp}{x:O}{y:Operand}{ty:TypeId}(A:o.op = .unOp op ty y)(F:qA y x=true)(E:opK orc (.un op x) t h k):Res P σ Z B h w (execOp a.eval o) k:=by
 obtain⟨v,d,C⟩:=qR D F E;cases op
 .cases v<;>try exact d.elim
  have e:=C.un_i;have z:=d;simp only[qeP,zH]at z;exact Res.pure r z (by simp[execOp,A,e,Op.unary,Op.intArith]) (.i _ _)
 .cases v<;>try exact d.elim
  have e:=C.un_i;have z:=d;simp only[qeP,zH]at z;exact Res.pure r z (by simp[execOp,A,e,Op.unary,Op.intBits]) (.i _ _)
 .cases v<;>try exact d.elim
  have e:=C.un_b;have z:=d;simp only[qeP,qV]at z;exact Res.pure r z (by simp[execOp,A,e,Op.unary]) (.b _)
 .exact d.elim
def qxn(A:OrcOk P σ orc)(r:Rel σ Z B h w)(J:TR σ Z t a.tmps){q:IntKind}{x:O}{y:Operand}{s d:TypeId}(M:o.op = .convert s d y)(L:qA y x=true)(D:(P.underlying s).isSome=true)(hd:qq4 P d q=true)(K:opK orc (.cvInt q x) t h k):Res P σ Z B h w (execOp a.eval o) k:=by
 obtain⟨v,H,I⟩:=qR J L K;obtain⟨ds,D⟩:=zzx.1 D
 have F:∃C p n,k C h/\a.eval y = .int p n/\VR σ Z C (.int q (q.wrap n)):=by
  cases v<;>try exact H.elim
  case i p n =>
   have e:=I.un_i;have z:xY (qkH q n) (λr=>k (.i q r) h):=H
   rw[zH,qeh]at z;exact⟨_,p,n,z,e,.i _ _⟩
  case sym j =>
   have z:qjk (orc.cv q j) (λv=>k v h):=H
   have e:=I.un_sym;cases E:orc.cv q j with
   | none=>rw[E]at z;exact z.elim
   | some C =>
    rw[E]at z;obtain⟨p,n,G,N⟩:=A.cv _ _ _ E;exact⟨C,p,n,z,e.trans G,N Z⟩
 obtain⟨C,p,n,z,Q,G⟩:=F;refine Res.pure r z (v':=.int q (q.wrap n)) ?_ G;simp only[execOp,M,convert,Sem.run_bind,qt D,qt (qh5 hd),Result.andThen_ok,Q];cases ds<;>simp[Conv.intToInt]
def qxD(r:Rel σ Z B h w)(C:TR σ Z t a.tmps){off f:Nat}{x:O}{y:Operand}{ty:TypeId}(K:o.op = .fieldAddr ty y f)(F:qA y x=true){d:Array Field}(h1:qdQ P ty=some d){fd:Field}(M:d[f]?=some fd)(Q:fd.offset=off)(A:qZ P fd.type 0=false)(H:(P.info? fd.type).isSome=true)(D:opK orc (.fAddr off x) t h k):Res P σ Z B h w (execOp a.eval o) k:=by
 obtain⟨v,G,J⟩:=qR C F D;obtain⟨b,I,u,L,z,N⟩:=qtC J G;obtain⟨i,hi⟩:=zzx.1 H;have E:i.size≠0:=by unfold qZ at A;rw[hi]at A;exact Ad
 refine Res.pure r z (v':=.pointer (some ⟨b,I+off,none⟩)) ?_ N;simp[execOp,K,Instr.fieldAt,qt (qeR h1),M,L,Instr.sureAddr,fieldPlace,sizeOf,typeInfo,hi,E,x7,Q]
def qFQ(r:Rel σ Z B h w)(N:TR σ Z t a.tmps){off f:Nat}{n:Option Nat}{x:O}{y:Operand}{ty:TypeId}(L:o.op = .field ty y f)(U:qA y x=true)(z:qmw P ((qdQ P ty).bind (·[f]?)) off n=true)(R:opK orc (.fld off n x) t h k):Res P σ Z B h w (execOp a.eval o) k:=by
 obtain⟨v,G,Y⟩:=qR N U R;cases v<;>try exact G.elim
 rename_i J;obtain⟨F,h3,M⟩:=Y.un_agg;cases A:qdQ P ty with
 | none=>rw[A]at z;cases n<;>cases z
 | some Q =>
  rw[A]at z;cases d:Q[f]? with
  | none=>simp[d,qmw]at z
  | some D =>
   simp only[Option.bind_some,d]at z;cases n with
   | none =>
    simp[qmw]at z;have C:qjh J off (λv=>k v h):=G
    obtain⟨v,K,I⟩:=(jn _ _ _).1 C;obtain⟨v',W,H⟩:=h3.get K;refine Res.pure r I (v':=v') ?_ H;have E:=(qkn (P:=P) (t:=D.type) F D.offset w).1 (v:=v') z.1.2 z.2 (by rw[z.1.1];exact Ad);simp[execOp,L,Instr.field,qt (qeR A),d,M,asAgg,E]
   | some n =>
    simp[qmw]at z;have C:qcM off J (λl=>qbu n l (λl=>k (.agg l) h)):=G
    obtain⟨K,I⟩:=(zP _ _ _).1 C;obtain⟨W,H⟩:=(zk _ _ _).1 I;have E:=(qkn (P:=P) (t:=D.type) F D.offset w).2 (n:=n) z.1.2 z.2;refine Res.pure r H (v':=.agg (F.extract off (off+n))) ?_ (.agg _ _ ?_)
    .rw[z.1.1]at E;simp[execOp,L,Instr.field,qt (qeR A),d,M,asAgg,E,z.1.1]
    simp_all[VRs.take,VRs.drop]
def qu6(r:Rel σ Z B h w)(I:TR σ Z t a.tmps){len z:Nat}{x i:O}{x' J:Operand}{ty e:TypeId}(Q:o.op = .indexAddr ty x' J)(C:qA x' x=true)(D:qA J i=true)(h1:qgW P ty=some (len,e))(W:qZ P e z=true)(K:opK orc (.iAddrA len z x i) t h k):Res P σ Z B h w (execOp a.eval o) k:=by
 obtain⟨v,h3,L⟩:=qR I C K;obtain⟨u,U,R⟩:=qR I D h3;obtain⟨q,n,F,H⟩:=qeg R U;obtain⟨d,G⟩:=(qc _ _).1 H;obtain⟨b,N,u2,Y,A,M⟩:=qtC L G;have E:n<len:=by rw[qei]at d;exact Ah
 refine Res.pure r A (v':=.pointer (some ⟨b,N+n*z,none⟩)) ?_ M;simp[execOp,Q,Instr.indexAt,Y,F,asIntOf,qt (qdL h1),Instr.sureAddr,E,zM W,x7]
def qu7(r:Rel σ Z B h w)(N:TR σ Z t a.tmps){d:Nat}{x i:O}{x' i':Operand}{ty e:TypeId}(Y:o.op = .indexAddr ty x' i')(R:qA x' x=true)(G:qA i' i=true)(h1:zS P ty=some e)(h2:qZ P e d=true)(hk:opK orc (.iAddrS d x i) t h k):Res P σ Z B h w (execOp a.eval o) k:=by
 obtain⟨v,Q,U⟩:=qR N R hk;cases v<;>try exact Q.elim
 rotate_left
 .rename_i len cs;obtain⟨u,K,M⟩:=qR N G Q;obtain⟨q,n,E,A⟩:=qeg M K;obtain⟨C,z⟩:=(qc _ _).1 A;rw[qy]at z;have D:n<len:=by rw[qei]at C;exact Ah
  rcases U.un_fz with⟨k0,F,c,arr,H,_,I,h14⟩|⟨H,_⟩
  .refine Res.pure r z (v':=.pointer (some ⟨k0,F+n*d,none⟩)) ?_ (.pf _ F _ k0 arr I h14);simp[execOp,Y,Instr.indexAt,H,E,asIntOf,qt (zo h1),D,zM h2,x7]
  .exact Ac
 .rename_i b len;obtain⟨u,K,M⟩:=qR N G Q;obtain⟨q,n,E,A⟩:=qeg M K;obtain⟨C,z⟩:=(qc _ _).1 A;rw[qy]at z;have D:n<len:=by rw[qei]at C;exact Ah
  rcases U.un_own with⟨H,_,_⟩|⟨L,c,H,I,h7,h14⟩
  .exact Ac
  .refine Res.pure r z (v':=.pointer (some ⟨L.blk,L.off+n*d,none⟩)) ?_ (.ptr _ _ L H);simp[execOp,Y,Instr.indexAt,h14,E,asIntOf,qt (zo h1),D,zM h2,x7]
 rename_i b o' len cap W;obtain⟨L,c,F,H,h7,I⟩:=U.un_sl;obtain⟨u,K,M⟩:=qR N G Q;obtain⟨q,n,E,A⟩:=qeg M K;obtain⟨C,z⟩:=(qc _ _).1 A;rw[qy]at z;have D:n<len:=by rw[qei]at C;exact Ah
 have J:F=L.off+o':=by rcases I with⟨I,_⟩|⟨I,_,_⟩<;>omega
 subst J;refine Res.pure r z (v':=.pointer (some ⟨L.blk,L.off+(o'+n*d),none⟩)) ?_ (.ptr _ _ L H);simp[execOp,Y,Instr.indexAt,h7,E,asIntOf,qt (zo h1),D,zM h2,x7,Nat.add_assoc]
end ops
omit [Cur] in
def qhY(l:List UInt8):(ByteArray.mk l.toArray).size=l.length:=Eh
omit [Cur] in
def qE1(l:List UInt8)(n:Nat):(ByteArray.mk l.toArray)[n]?=l[n]?:=by
 by_cases h:n<l.length
 .have z:n<(ByteArray.mk l.toArray).size:=by simpa[ByteArray.size]using h
  rw[getElem?_pos (ByteArray.mk l.toArray) n z,zzE h];rfl
 .have z:¬n<(ByteArray.mk l.toArray).size:=by simpa[ByteArray.size]using h
  rw[getElem?_neg (ByteArray.mk l.toArray) n z,List.getElem?_eq_none Ac]
section ops
variable {B:Nat->Prop}{h:Hp}{w:World}{a:Act}{t:Tr AV}{orc:Orc}{k:AV->Hp->Prop}{o:Oper}
def qBZ(r:Rel σ Z B h w)(L:TR σ Z t a.tmps){len z:Nat}{agg:Bool}{x i:O}{x' N:Operand}{ty e:TypeId}(ho:o.op = .index ty x' N)(F:qA x' x=true)(G:qA N i=true)(h1:qgW P ty=some (len,e))(h2:qZ P e z=true)(E:wi P e=agg)(hu:(P.underlying e).isSome=true)(R:opK orc (.idxA len z agg x i) t h k):Res P σ Z B h w (execOp a.eval o) k:=by
 obtain⟨v,Q,Y⟩:=qR L F R;cases v<;>try exact Q.elim
 rename_i M;obtain⟨K,h5,h6⟩:=Y.un_agg;obtain⟨u,W,h9⟩:=qR L G Q;obtain⟨q,n,h10,H⟩:=qeg h9 W;obtain⟨I,D⟩:=(qc _ _).1 H;rw[qy]at D;have hlt:n<len:=by rw[qei]at I;exact Ah
 cases agg with
 | false =>
  have d:qjh M (n*z) (λv=>k v h):=D
  obtain⟨v,C,A⟩:=(jn _ _ _).1 d;obtain⟨v',U,J⟩:=h5.get C;have hp:=(qkn (P:=P) (t:=e) K (n*z) w).1 (v:=v') E hu Ad;refine Res.pure r A (v':=v') ?_ J;exact Hc
 | true =>
  have d:qcM (n*z) M (λl=>qbu z l (λl=>k (.agg l) h)):=D
  obtain⟨_,C⟩:=(zP _ _ _).1 d;obtain⟨_,A⟩:=(zk _ _ _).1 C;have hp:=(qkn (P:=P) (t:=e) K (n*z) w).2 (n:=z) E h2;refine Res.pure r A (v':=.agg (K.extract (n*z) (n*z+z))) ?_ (.agg _ _ ?_)
  .exact Hc
  simp_all[VRs.take,VRs.drop]
def qB0(r:Rel σ Z B h w)(E:TR σ Z t a.tmps){x i:O}{x' F:Operand}{ty:TypeId}(K:o.op = .index ty x' F)(d:qA x' x=true)(C:qA F i=true)(h1:qad P ty=true)(H:opK orc (.idxS x i) t h k):Res P σ Z B h w (execOp a.eval o) k:=by
 obtain⟨v,G,I⟩:=qR E d H;cases v<;>try exact G.elim
 rename_i l;have N:=I.un_s;obtain⟨u,M,L⟩:=qR E C G;obtain⟨q,n,D,z⟩:=qeg L M;cases A:l[n]? with
 | none=>rw[A]at z;exact Ad
 | some c =>
  rw[A]at z;refine Res.pure r z (v':=.int .u8 (c.toNat:Int)) ?_ (.i _ _);have Q:n<l.length:=Ah
  have J:=(qE1 l n).trans A;simp[execOp,K,Instr.index,N,D,asIntOf,qt (xZ h1),J]
def qFJ(r:Rel σ Z B h w)(C:TR σ Z t a.tmps){x:O}{i:Nat}{y:Operand}(H:o.op = .extract y i)(F:qA y x=true)(D:opK orc (.ext x i) t h k):Res P σ Z B h w (execOp a.eval o) k:=by
 obtain⟨v,d,J⟩:=qR C F D;cases v<;>try exact d.elim
 rename_i E;obtain⟨N,L,M⟩:=J.un_tup;have z:qjh E i (λv=>k v h):=d
 obtain⟨v,G,K⟩:=(jn _ _ _).1 z;obtain⟨v',A,I⟩:=L.get G;exact Res.pure r K (by simp only[Array.getElem?_toList]at A;simp[execOp,H,M,Instr.extract,A]) I
def qGy(r:Rel σ Z B h w)(C:TR σ Z t a.tmps){f:Nat}{xs D:List O}{d ds:Array Operand}(G:o.op = .makeFunc (.func f) d ds)(z:qfi d.toList xs=true)(A:qfi ds.toList D=true)(E:opK orc (.mkF f xs D) t h k):Res P σ Z B h w (execOp a.eval o) k:=by
 obtain⟨I,F,K⟩:=qi8 C z E;obtain⟨J,H,L⟩:=qi8 C A F;exact Res.pure r H (v':=.func (.func f) (d.map a.eval) (ds.map a.eval)) (by simp[execOp,G,Instr.makeFunc]) (.fn _ _ _ _ _ Ad Ad)
def qvd(r:Rel σ Z B h w){ty:TypeId}{y:Operand}{n:Nat}{m:Int}{args:Array TypeId}{ops:Array Operand}(E:o.op = .call ⟨.builtin .len,ops,args⟩)(d:ops.toList=[y])(A:args[0]?=some ty){e:TypeId}(h1:qgW P ty=some (n,e))(C:m=(n:Int))(D:opK orc (.mov (.c (.i .i64 m))) t h k):Res P σ Z B h w (execOp a.eval o) k:=by
 subst C;have z:k (.i .i64 (n:Int)) h:=D;obtain rfl:ops = #[y]:=Ah
 exact Res.pure r z (v':=.int .i64 n) (by simp[execOp,E,resolve,invoke,builtin,Builtin.len_,A,qt (qdL h1),goInt]) (.i _ _)
def qGe(D:OrcOk P σ orc)(r:Rel σ Z B h w)(H:TR σ Z t a.tmps){C:Bool}{ty:TypeId}{x:O}{y:Operand}{args:Array TypeId}{ops:Array Operand}(ho:o.op = .call ⟨.builtin .len,ops,args⟩)(G:ops.toList=[y])(hr:args[0]?=some ty)(h1:(if C then qad P ty else(zS P ty).isSome)=true)(N:qA y x=true)(I:opK orc (.len C x) t h k):Res P σ Z B h w (execOp a.eval o) k:=by
 obtain⟨v,d,A⟩:=qR H N I;obtain rfl:ops = #[y]:=Ah
 cases C with
 | false =>
  obtain⟨e,M⟩:=zzx.1 Eb;have hu:=zo M;cases v<;>try exact d.elim
  .have e':=A.un_nils;exact Res.pure r (v:=.i .i64 0) d Aq (.i _ _)
  .obtain⟨L,c,_,_,e',_⟩:=A.un_sl;exact Res.pure r (v:=.i .i64 (Int.ofNat _)) d Aq (.i _ _)
  .rcases A.un_fz with⟨k0,off,c,arr,e',_⟩|⟨rfl,_,F,e'⟩
   .exact Res.pure r (v:=.i .i64 (Int.ofNat _)) d Aq (.i _ _)
   .exact Res.pure r (v:=.i .i64 (Int.ofNat _)) d Aq (.i _ _)
  .obtain⟨F,e'⟩:=A.un_e0;exact Res.pure r (v:=.i .i64 0) d Aq (.i _ _)
  .rcases A.un_own with⟨rfl,⟨F,e'⟩,_⟩|⟨L,c,_,_,_,e'⟩
   .exact Res.pure r (v:=.i .i64 (Int.ofNat _)) d Aq (.i _ _)
   .exact Res.pure r (v:=.i .i64 (Int.ofNat _)) d Aq (.i _ _)
  .obtain⟨F,Q,e'⟩:=A.un_nz;exact Res.pure r (v:=.i .i64 0) d Aq (.i _ _)
 | true =>
  have hu:=xZ (P:=P) (t:=ty) Ad;cases v<;>try exact d.elim
  .have e':=A.un_s;have z:qq _ _:=d;rw[qy]at z;exact Res.pure r (v:=.i .i64 (Int.ofNat _)) z (by simp[execOp,ho,resolve,invoke,builtin,Builtin.len_,hr,qt hu,e',goInt,qhY]) (.i _ _)
  .rename_i j;have z:qjk (orc.len j) (λv=>k v h):=d
   cases E:orc.len j with
   | none=>rw[E]at z;exact z.elim
   | some q =>
    rw[E]at z;obtain⟨s,K,J⟩:=D.len _ _ E;have e':a.eval y = .string s:=A.un_sym.trans K;exact Res.pure r z Aq (J _)
def qFj(r:Rel σ Z B h w)(D:TR σ Z t a.tmps){ty:TypeId}{x:O}{y:Operand}{args:Array TypeId}{ops:Array Operand}(ho:o.op = .call ⟨.builtin .cap,ops,args⟩)(d:ops.toList=[y])(hr:args[0]?=some ty)(h1:(zS P ty).isSome=true)(I:qA y x=true)(E:opK orc (.cap x) t h k):Res P σ Z B h w (execOp a.eval o) k:=by
 obtain⟨v,h2,C⟩:=qR D I E;obtain rfl:ops = #[y]:=by cases ops;simpa using d
 obtain⟨e,G⟩:=zzx.1 h1;have hu:=zo G;cases v<;>try exact h2.elim
 .have e':=C.un_nils;exact Res.pure r (v:=.i .i64 0) h2 Cf (.i _ _)
 .rename_i b K len cap z;cases z with
  | true=>exact Fk
  | false =>
   obtain⟨L,c,F,M,e',H⟩:=C.un_sl
   have A:c=cap:=by
    rcases H with⟨_,q1|⟨q1,_⟩⟩|⟨_,q1,q2⟩
    .exact q1
    .cases q1
    .exact q2.trans q1.symm
   subst A;exact Res.pure r (v:=.i .i64 (Int.ofNat _)) h2 Cf (.i _ _)
 .obtain⟨J,e'⟩:=C.un_e0;exact Res.pure r (v:=.i .i64 0) h2 Cf (.i _ _)
def qGq(r:Rel σ Z B h w)(d:TR σ Z t a.tmps){x y:O}{x' y':Operand}{args:Array TypeId}{ops:Array Operand}(J:o.op = .call ⟨.builtin .max,ops,args⟩)(A:ops.toList=[x',y'])(E:qA x' x=true)(z:qA y' y=true)(C:opK orc (.max x y) t h k):Res P σ Z B h w (execOp a.eval o) k:=by
 obtain⟨u,H,K⟩:=qR d E C;obtain⟨v,L,D⟩:=qR d z H;obtain rfl:ops = #[x',y']:=Ah
 obtain⟨q,n,G,F⟩:=qp0 K L;obtain⟨M,m,I,h8⟩:=qp0 D F
 have hrun:(execOp a.eval o).run P w = .ok (.value (.int q (if m > n then m else n))) w:=by
  simp[execOp,J,resolve,invoke,builtin,Builtin.max_,Builtin.max2,G,I]
 rw[qde]at h8
 by_cases hlt:n<m
 .exact E9
 .exact E7
end ops
def qv6(σ:Nat->Value)(Z:Ren)(v:Option AV)(y:Option Value):Prop:=(v=none/\y=none)\/∃u z,v=some u/\y=some z/\VR σ Z u z
omit [Cur] in
def qlR{v:Option AV}{y:Option Value}(D:qv6 σ Z v y){d z A:Nat}(K:z<=A){k:Nat->Prop}(F:qjI v d z k)(C:Instr.sliceBound=Instr.sliceBound->BoundsCode)(w:World) :
  ∃n,k n/\((v=none/\y=none/\n=d)\/∃u,y=some u/\v≠none/\n<=z/\(Instr.sliceBound u A (C rfl)).run P w = .ok n w):=by
 rcases D with⟨rfl,rfl⟩|⟨u,y',rfl,rfl,D⟩
 .exact⟨d,F,Ad⟩
 .have E:unN u (λn=>qn (Nat.ble n z) (qq n k)):=F
  obtain⟨q,n,e,H⟩:=qeg D E;obtain⟨I,G⟩:=(qc _ _).1 H;rw[qy]at G;rw[qei]at I;have J:n<=z:=Ad
  refine⟨n,G,.inr ⟨_,rfl,by simp,J,?_⟩⟩
  have:(0:Int)<=n/\(n:Int)<=A:=Ac
  simp[Instr.sliceBound,e,asIntOf,this]
omit [Cur] in
def jL{lo hi G:Option AV}{K N Q:Option Value}(h1:qv6 σ Z lo K)(h2:qv6 σ Z hi N)(h3:qv6 σ Z G Q){len cap d:Nat}(hc:cap<=d){k:Nat->Nat->Nat->Prop}(hk:xg len cap lo hi G k)(A:Bool)(w:World) :
  ∃l h m Y,k l h m/\(Instr.sliceBounds A len d K N Q).run P w = .ok (l,h,Y) w/\l<=h/\h<=m/\m<=cap/\((G=none/\m=cap/\Y=d)\/(G≠none/\Y=m)):=by
 have W:qjI G cap cap (λm=>Option.rec (motive:=λ_=>Prop) (Option.rec (motive:=λ_=>Prop) (qn (Nat.ble len m) (qjI lo 0 len (λl=>k l len m))) (λ_=>False) G)
  (λv=>unN v (λh=>qn (Nat.ble h m) (qq h (λh=>qjI lo 0 h (λl=>k l h m))))) hi):=hk
 obtain⟨m,hm,L⟩:=qlR (P:=P) h3 hc W (λ_=>if A then .slice3Acap else .slice3Alen) w
 rcases h2 with⟨rfl,rfl⟩|⟨u,y',rfl,rfl,hv⟩
 .rcases L with⟨rfl,rfl,rfl⟩|⟨u,rfl,hne,_⟩
  .have H:qn (Nat.ble len m) (qjI lo 0 len (λl=>k l len m)):=hm
   obtain⟨R,U⟩:=(qc _ _).1 H;rw[qei]at R;obtain⟨l,J,I⟩:=qlR (P:=P) h1 (zzL _) U (λ_=>.sliceB) w
   rcases I with⟨rfl,rfl,rfl⟩|⟨u,rfl,_,E,h9⟩
   .exact⟨0,len,m,d,J,by simp[Instr.sliceBounds],zzu _,Ad,zzL _,Ad⟩
   .exact⟨l,len,m,d,J,by simp[Instr.sliceBounds,h9],E,Ad,zzL _,Ad⟩
  .cases G<;>simp_all
 .have H:unN u (λh=>qn (Nat.ble h m) (qq h (λh=>qjI lo 0 h (λl=>k l h m)))):=hm
  obtain⟨q,h,e,R⟩:=qeg hv H;obtain⟨U,J⟩:=(qc _ _).1 R;rw[qy]at J;rw[qei]at U;have D:h<=m:=Ad
  rcases L with⟨rfl,rfl,rfl⟩|⟨v,rfl,hne,hmt,hmr⟩
  .obtain⟨l,I,E⟩:=qlR (P:=P) h1 (zzL _) J (λ_=>.sliceB) w
   have M:∀C,(Instr.sliceBound y' d C).run P w = .ok h w:=by
    intro C;have:(h:Int)<=d:=Ac
    simp[Instr.sliceBound,e,asIntOf];exact Ac
   rcases E with⟨rfl,rfl,rfl⟩|⟨v,rfl,_,E,h9⟩
   .exact⟨0,h,m,d,I,by simp[Instr.sliceBounds,M],zzu _,D,zzL _,.inl ⟨rfl,rfl,rfl⟩⟩
   .exact⟨l,h,m,d,I,by simp[Instr.sliceBounds,M,h9],E,D,zzL _,.inl ⟨rfl,rfl,rfl⟩⟩
  .obtain⟨l,I,E⟩:=qlR (P:=P) h1 (zzL _) J (λ_=>.slice3C) w
   have M:∀C,(Instr.sliceBound y' m C).run P w = .ok h w:=by
    intro C;simp[Instr.sliceBound,e,asIntOf];exact Ac
   have F:(Instr.sliceBound v d (if A=true then .slice3Acap else .slice3Alen)).run P w = .ok m w:=hmr
   rcases E with⟨rfl,rfl,rfl⟩|⟨z,rfl,_,E,h9⟩
   .exact⟨0,h,m,m,I,by simp[Instr.sliceBounds,F,M],zzu _,D,hmt,.inr ⟨hne,rfl⟩⟩
   .exact⟨l,h,m,m,I,by simp[Instr.sliceBounds,F,M,h9],E,D,hmt,.inr ⟨hne,rfl⟩⟩
def qeI{t:Tr AV}{a:Act}(d:TR σ Z t a.tmps){x:Option O}{y:Option Operand}(C:jY y x=true){k:Option AV->Prop}(h:qaV t x k):∃v,k v/\qv6 σ Z v (y.map a.eval):=by
 obtain⟨v,z,A⟩:=qCN d C h;rcases A with⟨rfl,rfl⟩|⟨u,y',rfl,rfl,h3⟩
 .exact⟨none,z,.inl ⟨rfl,rfl⟩⟩
 .exact⟨some u,z,.inr Ad⟩
section ops
variable {B:Nat->Prop}{h:Hp}{w:World}{a:Act}{t:Tr AV}{orc:Orc}{k:AV->Hp->Prop}{o:Oper}
def qDp(r:Rel σ Z B h w)(ht:TR σ Z t a.tmps){z:Nat}{x:O}{lo hi mx:Option O}{x':Operand}{K N Q:Option Operand}{ty e:TypeId}(ho:o.op = .slice ty x' K N Q)(hc:qA x' x=true)(hc1:jY K lo=true)(hc2:jY N hi=true)(hc3:jY Q mx=true)(h1:zS P ty=some e)(h2:qZ P e z=true)(hk:opK orc (.slcS z x lo hi mx) t h k):Res P σ Z B h w (execOp a.eval o) k:=by
 obtain⟨v,h3,R⟩:=qR ht hc hk;obtain⟨l,h5,hl⟩:=qeI ht hc1 h3;obtain⟨hh,h6,hhi⟩:=qeI ht hc2 h5;obtain⟨m,J,hm⟩:=qeI ht hc3 h6;have hu:=zo h1;cases v<;>try exact J.elim
 .obtain⟨l0,h0,m0,mR,h8,h9,A,E,h12,h13⟩:=jL (P:=P) hl hhi hm (zzL 0) J true w;refine Res.pure r h8 (v':=.slice none 0 0) ?_ .nils;have:l0=0/\h0=0/\mR=0:=by rcases h13 with⟨_,_,_⟩|⟨_,_⟩<;>omega
  obtain⟨rfl,rfl,rfl⟩:=this;simp[execOp,ho,Instr.sliceAt,qt hu,Instr.slice,R.un_nils,h9,zM h2]
 rotate_left 1
 .rename_i n M
  -- a row that stays
  have hgo:∀(l0 h0 m0:Nat),Bool.rec (motive:=λ_=>Prop) (qcM (Nat.mul l0 z) M (λl1=>qq (h0-l0) (λC=>qbu (Nat.mul C z) l1 (λl2=>k (.fz C l2) h)))) (k .e0 h) (and m.isSome (Nat.beq m0 l0))->
    ((and m.isSome (Nat.beq m0 l0))=true/\k .e0 h)\/((and m.isSome (Nat.beq m0 l0))=false/\l0*z<=M.length/\(h0-l0)*z<=M.length-l0*z/\k (.fz (h0-l0) ((M.drop (l0*z)).take ((h0-l0)*z))) h):=by
   grind[qff,zP,qy,zk]
  rcases R.un_fz with⟨k0,I,c,arr,e1,e0,U,e4⟩|⟨rfl,rfl,a0,e1⟩
  .obtain⟨l0,h0,m0,mR,G,g2,g3,g4,g5,g6⟩:=jL (P:=P) hl hhi hm e0 J true w
   have D:(execOp a.eval o).run P w = .ok (.value (.slice (some (if mR=l0 then⟨k0,I,none⟩else⟨k0,I+l0*z,none⟩)) (h0-l0) (mR-l0))) w:=by
    simp only[execOp,ho,Instr.sliceAt,Sem.run_bind,qt hu,Result.andThen_ok,Instr.slice,e1,g2,zM h2,zza,Sem.run_pure,x7]
    exact Ah
   rcases hgo l0 h0 m0 G with⟨q1,q2⟩|⟨q1,q2,q3,q4⟩
   .simp only[zzB]at q1;have q3:m0=l0:=Ad
    have q4:mR=l0:=Ah
    refine Res.pure r q2 D ?_;have q5:h0-l0=0:=Ac
    rw[if_pos q4,q4,Nat.sub_self,q5];exact .e0 _
   .have hmR:h0<=mR:=Ec
    refine Res.pure r q4 D ?_
    by_cases hz:mR=l0
    .rw[if_pos hz];have q5:h0-l0=0:=Ac
     rw[q5];simp only[Nat.zero_mul,List.take_zero];exact .fz _ _ _ _ _ arr (zzu _) U Fx
    .rw[if_neg hz];refine .fz _ _ _ _ _ arr Ac U ?_;have hlen:((M.drop (l0*z)).take ((h0-l0)*z)).length=(h0-l0)*z:=by simp;exact Ac
     rw[hlen];have:=(e4.drop (l0*z)).take ((h0-l0)*z);rw[List.drop_take,List.take_take,List.drop_drop]at this;rw[Nat.min_eq_left Ac]at this;exact Ac
  .obtain⟨l0,h0,m0,mR,G,g2,g3,g4,g5,g6⟩:=jL (P:=P) hl hhi hm (zzL 0) J true w;have hz:l0=0/\h0=0/\mR=0:=Ec
   have D:(execOp a.eval o).run P w = .ok (.value (.slice a0 0 0)) w:=by
    obtain⟨rfl,rfl,rfl⟩:=hz;cases a0<;>simp[execOp,ho,Instr.sliceAt,qt hu,Instr.slice,e1,g2,zM h2]
   rcases hgo l0 h0 m0 G with⟨q1,q2⟩|⟨q1,q2,q3,q4⟩
   .exact Res.pure r q2 D (.e0 _)
   grind[Res.pure]
 .obtain⟨l0,h0,m0,mR,G,g2,g3,g4,g5,g6⟩:=jL (P:=P) hl hhi hm (zzL 0) J true w;have hz:l0=0/\h0=0/\mR=0:=Ec
  obtain⟨rfl,rfl,rfl⟩:=hz;obtain⟨a0,e1⟩:=R.un_e0;refine Res.pure r G (v':=.slice a0 0 0) ?_ (.e0 _);cases a0<;>simp[execOp,ho,Instr.sliceAt,qt hu,Instr.slice,e1,g2,zM h2]
 .rename_i b n
  -- a row of one's own
  cases m with
  | some u =>
   have hcall:∀{l0 h0 mR len c:Nat}{a0:Option Addr},a.eval x' = .slice a0 len c->(Instr.sliceBounds true len c (K.map a.eval) (N.map a.eval) (Q.map a.eval)).run P w = .ok (l0,h0,mR) w->
     (execOp a.eval o).run P w = .ok (.value (.slice (a0.map λq=>if mR=l0 then q else q.add (l0*z)) (h0-l0) (mR-l0))) w:=by
    intro l0 h0 mR len c a0 ev g2;exact Cw
   cases n with
   | zero =>
    have h7':xg 0 0 l hh (some u) (λ_ _ _=>k (.own b 0) h):=J
    rcases R.un_own with⟨-,⟨a0,e1⟩,hb⟩|⟨L,c,G,g2,g3,e1⟩
    .exact Bj
    .obtain⟨l0,h0,m0,mR,q1,q2,q3,q4,q5,q6⟩:=jL (P:=P) hl hhi hm (zzu c) h7' true w
     have hz:l0=0/\h0=0/\mR=0:=Ah
     obtain⟨rfl,rfl,rfl⟩:=hz;refine Res.pure r q1 (hcall e1 q2) ?_;simp only[zza,if_true,Nat.sub_zero];exact .own _ _ 0 L G (zzL _) (by rw[Nat.zero_mul];exact Ac)
   | succ n =>
    have h7':xg (n+1) (n+1) l hh (some u) (λl h' m=>qq (if m=l then 0 else Nat.mul l z) (λF=>qq (h'-l) (λC=>qq (m-l) (λH=>k (.sl b F C H false) h)))):=J
    rcases R.un_own with⟨hn0,_⟩|⟨L,c,G,g2,g3,e1⟩
    .exact Ac
    .obtain⟨l0,h0,m0,mR,q1,q2,q3,q4,q5,q6⟩:=jL (P:=P) hl hhi hm g2 h7' true w;simp only[qy]at q1
     have q11:mR=m0:=Ah
     subst q11;refine Res.pure r q1 (hcall e1 q2) ?_
     by_cases hz:mR=l0
     .simp only[zza,if_pos hz];exact .sl _ 0 _ _ _ _ L G (.inl rfl)
     .simp only[zza,if_neg hz,x7];exact .sl _ (l0*z) _ _ _ _ L G (.inl rfl)
  | none =>
   have hcall:∀{l0 h0 mR len c:Nat}{a0:Option Addr},a.eval x' = .slice a0 len c->(Instr.sliceBounds true len c (K.map a.eval) (N.map a.eval) (Q.map a.eval)).run P w = .ok (l0,h0,mR) w->
     (execOp a.eval o).run P w = .ok (.value (.slice (a0.map λq=>if mR=l0 then q else q.add (l0*z)) (h0-l0) (mR-l0))) w:=by
    intro l0 h0 mR len c a0 ev g2;exact Cw
   cases n with
   | zero =>
    have h7':xg 0 0 l hh none (λ_ _ _=>k (.own b 0) h):=J
    rcases R.un_own with⟨-,⟨a0,e1⟩,hb⟩|⟨L,c,G,g2,g3,e1⟩
    .exact Bj
    .obtain⟨l0,h0,m0,mR,q1,q2,q3,q4,q5,q6⟩:=jL (P:=P) hl hhi hm (zzu c) h7' true w
     have hz:l0=0/\h0=0/\mR=c:=by
      rcases q6 with⟨_,_,q7⟩|⟨q7,_⟩
      .exact Ac
      .exact absurd rfl q7
     grind[Res.pure,x7]
   | succ n =>
    have h7':xg (n+1) (n+1) l hh none (λl h' m=>qq (Nat.mul l z) (λF=>qq (h'-l) (λC=>qq (m-l) (λH=>qlH h b z true (k (.sl b F C H true) h))))):=J
    rcases R.un_own with⟨hn0,_⟩|⟨L,c,G,g2,g3,e1⟩
    .exact Ac
    .obtain⟨l0,h0,m0,mR,q1,q2,q3,q4,q5,q6⟩:=jL (P:=P) hl hhi hm g2 h7' true w;simp only[qy]at q1;obtain⟨U,wf,af,M,hg,q7⟩:=(zh _ _ _).1 q1;obtain⟨q8,q9⟩:=(qc _ _).1 q7;obtain⟨q10,_⟩:=r.cells b L U wf af M G hg;have he:L.esz=z:=q10.trans (by simpa using q8)
     obtain⟨q11,q12⟩:m0=n+1/\mR=c:=Ah
     subst q12;refine Res.pure r q9 (hcall e1 q2) ?_;simp only[zza,x7]
     by_cases hz:mR=l0
     .rw[if_pos hz,hz,Nat.sub_self];have e3:h0-l0=0:=Ac
      have e4:m0-l0=0:=Ac
      rw[e3,e4];exact .slz _ _ _ _ L G
     .rw[if_neg hz];refine .sl _ _ _ _ _ _ L G (.inr ⟨rfl,Ac,?_⟩)
      have hmul:l0*z+(mR-l0)*z=mR*z:=by rw[<- Nat.add_mul];congr 1;exact Ac
      rw[he]at g3 ⊢
      exact Ah
 .rename_i b F len cap d;obtain⟨L,c,I,h8,h9,A⟩:=R.un_sl;have hcc:cap<=c:=by rcases A with⟨_,h|h⟩|⟨_,h,h'⟩<;>omega
  obtain⟨l0,h0,m0,mR,E,h12,h13,h14,h15,h16⟩:=jL (P:=P) hl hhi hm hcc J true w;simp only[qy]at E
  have h11':k (.sl b (if(d&&m.isNone)=false/\m0=l0 then F else F.add (l0.mul z)) (h0-l0) (m0-l0) (d&&m.isNone)) h/\((d&&m.isNone)=true->L.esz=z):=by
   revert E;cases(d&&m.isNone)with
   | false=>intro E;exact⟨E,Ah⟩
   | true =>
    intro E;obtain⟨U,wf,af,M,hg,h17⟩:=(zh _ _ _).1 E;obtain⟨Y,h19⟩:=(qc _ _).1 h17;obtain⟨h20,_⟩:=r.cells b L U wf af M h8 hg;exact⟨h19,λ_=>h20.trans (by simpa using Y)⟩
  obtain⟨E,hesz⟩:=h11'
  have D:(execOp a.eval o).run P w = .ok (.value (.slice (some (if mR=l0 then⟨L.blk,I,none⟩else⟨L.blk,I+l0*z,none⟩)) (h0-l0) (mR-l0))) w:=by
   simp only[execOp,ho,Instr.sliceAt,Sem.run_bind,qt hu,Result.andThen_ok,Instr.slice,h9,h12,zM h2,zza,Sem.run_pure,x7]
   exact Ah
  refine Res.pure r E D ?_
  by_cases hz:mR=l0
  .rw[if_pos hz,hz,Nat.sub_self];have e1:h0-l0=0:=Ho
   have U:m0-l0=0:=Ho
   rw[e1,U];exact .slz _ _ _ _ L h8
  .rw[if_neg hz];rcases A with⟨rfl,A⟩|⟨hl0,hc0,hcr⟩
   .rcases h16 with⟨rfl,rfl,rfl⟩|⟨hmx,rfl⟩
    .-- no max
     have e3:(if(d&&(none:Option AV).isNone)=false/\m0=l0 then F else F.add (l0.mul z))=F+l0*z:=by
      split
      .rename_i W;rcases A with A|⟨A,_⟩
       .exact Ac
       .simp[A]at W
      .rfl
     rw[e3];have e4:L.off+F+l0*z=L.off+(F+l0*z):=Ac
     rw[e4];refine .sl _ _ _ _ _ _ L h8 ?_;rcases A with A|⟨A,h17,Y⟩
     .left;exact Ac
     .right;have he:=hesz (by simp[A]);refine⟨by simp[A],Ac,?_⟩
      have hmul:l0*z+(mR-l0)*z=mR*z:=by rw[<- Nat.add_mul];congr 1;exact Ac
      rw[he]at Y ⊢;exact Ac
    .have e3:(if(d&&m.isNone)=false/\mR=l0 then F else F.add (l0.mul z))=F+l0*z:=by
      rw[if_neg (by intro hh;exact hz hh.2)];rfl
     rw[e3];have e4:L.off+F+l0*z=L.off+(F+l0*z):=Ac
     rw[e4];exact .sl _ _ _ _ _ _ L h8 (.inl rfl)
   exact Ac
end ops
section ops
variable {B:Nat->Prop}{h:Hp}{w:World}{a:Act}{t:Tr AV}{orc:Orc}{k:AV->Hp->Prop}{o:Oper}
def qvV(r:Rel σ Z B h w)(E:TR σ Z t a.tmps){x:O}{lo hi:Option O}{x':Operand}{z d:Option Operand}{ty:TypeId}(ho:o.op = .slice ty x' z d none)(K:qA x' x=true)(D:jY z lo=true)(F:jY d hi=true)(h1:qad P ty=true)(J:opK orc (.slcStr x lo hi) t h k):Res P σ Z B h w (execOp a.eval o) k:=by
 obtain⟨v,h3,Q⟩:=qR E K J;obtain⟨l,Y,M⟩:=qeI E D h3;obtain⟨hh,I,G⟩:=qeI E F Y;have W:=xZ h1;cases v<;>try exact I.elim
 rename_i s;obtain⟨C,A,m0,mR,N,h9,h10,R,U,h13⟩:=jL (P:=P) M G (.inl ⟨rfl,rfl⟩) (zzL s.length) I false w;refine Res.pure r N (v':=.string ⟨((s.take A).drop C).toArray⟩) ?_ (.s _)
 have L:(ByteArray.mk s.toArray).extract C A=⟨((s.take A).drop C).toArray⟩:=by
  apply ByteArray.ext;rw[ByteArray.data_extract];apply Array.ext';simp[List.extract_eq_take_drop,List.drop_take]
 have H:(Instr.sliceBounds false (ByteArray.mk s.toArray).size (ByteArray.mk s.toArray).size (z.map a.eval) (d.map a.eval) none).run P w = .ok (C,A,mR) w:=by rw[qhY];exact h9
 simp only[execOp,ho,Instr.sliceAt,Sem.run_bind,qt W,Result.andThen_ok,Instr.slice,Q.un_s,Option.map_none,Option.isSome_none,Bool.false_eq_true,if_false,H,Sem.run_pure,L]
def qDo(r:Rel σ Z B h w)(F:TR σ Z t a.tmps){len z:Nat}{x:O}{lo hi Y:Option O}{x':Operand}{A D E:Option Operand}{ty e:TypeId}(ho:o.op = .slice ty x' A D E)(hc:qA x' x=true)(H:jY A lo=true)(J:jY D hi=true)(I:jY E Y=true)(h1:qgW P ty=some (len,e))(h2:qZ P e z=true)(hk:opK orc (.slcA len z x lo hi Y) t h k):Res P σ Z B h w (execOp a.eval o) k:=by
 obtain⟨v,h3,h4⟩:=qR F hc hk;obtain⟨b,W,L,h5,h6,h7⟩:=qsG h4 h3;obtain⟨l,h8,hl⟩:=qeI F H h7;obtain⟨hh,h9,K⟩:=qeI F J h8;obtain⟨m,R,hm⟩:=qeI F I h9;obtain⟨G,h0,m0,U,C,N,h13,h14,h15,M⟩:=jL (P:=P) hl K hm (zzL len) R false w;simp only[qy]at C;have Q:U=m0:=by rcases M with⟨_,rfl,rfl⟩|⟨_,rfl⟩<;>rfl
 subst Q
 have d:(execOp a.eval o).run P w = .ok (.value (.slice (some ⟨L.blk,L.off+(if U=G then W else W.add (G.mul z)),none⟩) (h0-G) (U-G))) w:=by
  simp only[execOp,ho,Instr.sliceAt,Sem.run_bind,qt (qdL h1),Result.andThen_ok,h6,Instr.sureAddr,Sem.run_pure,N,zM h2,x7]
  exact Ah
 exact Res.pure r C d (.sl _ _ _ _ _ _ L h5 (.inl rfl))
omit [Cur] in
def qmU{q:NK}{x:AV}{x':Value}(H:VR σ Z x x'){k:Bool->Prop}(d:ju q x k){ty:TypeId}(E:qvv P q ty=true){y:Operand}(A:qe0 q y=true)(w:World) :
  ∃c z,k c/\y = .const z/\(Op.equalIn (9999+1) ty x' z).run P w = .ok c w/\(Op.equalIn (9999+1) ty z x').run P w = .ok c w/\(∀C,x'≠.agg C)/\(∀C,z≠.agg C) /\
   (∀op,op = .eql\/op = .neq->binOp op ty x' z=(do let r <- Op.equal ty x' z;pure (.bool (xor (op == .neq) r)))) /\
   (∀op,op = .eql\/op = .neq->binOp op ty z x'=(do let r <- Op.equal ty z x';pure (.bool (xor (op == .neq) r)))):=by
 unfold qvv at E;split at E<;>try (cases E;done)
 all_goals
  rename_i F;cases y<;>first|(simp[qe0]at A;done)|skip
  rename_i z;unfold qe0 at A;split at A<;>first|(simp at A;done)|skip
  all_goals
   rename_i G;cases G;cases x<;>first|exact d.elim|skip
   all_goals
    cases H<;>first|exact(d:False).elim|skip
   all_goals
    first|refine⟨_,_,d,rfl,?_,?_,?_,?_,?_,?_⟩|refine⟨_,_,((qc _ _).1 d).2,rfl,?_,?_,?_,?_,?_,?_⟩
   all_goals first|(intro op D;rcases D with rfl|rfl<;>simp[binOp,show(BinOp.eql==BinOp.neq)=false from rfl];done)|(intro C I;cases I;done)|(rw[Op.equalIn];simp[qt F];done)
def qxw(r:Rel σ Z B h w)(L:TR σ Z t a.tmps){d:Bool}{q:NK}{op:BinOp}(I:(op = .eql/\d=false)\/(op = .neq/\d=true)){x:O}{x' y':Operand}{ty uy:TypeId}(ho:o.op = .binOp op ty x' y' uy)
  (D:(qA x' x=true/\qe0 q y'=true)\/(qA y' x=true/\qe0 q x'=true)) (N:qvv P q ty=true) (M:opK orc (.eqN d q x) t h k):Res P σ Z B h w (execOp a.eval o) k:=by
 have C:op = .eql\/op = .neq:=Ah
 have A:d=(op == .neq):=by rcases I with⟨rfl,rfl⟩|⟨rfl,rfl⟩<;>rfl
 have hg:∀{X Y:Operand}{u v:Value},((∃z,X = .const z)\/∃z,Y = .const z)->(∀cs,u≠.agg cs)->(eqGuard op ty X Y u v).run P w = .ok () w:=by
  intro X Y u v D hu
  by_cases E:u = .nilIface
  .subst E;cases v<;>first|(cases op<;>simp[eqGuard];done)|(rcases D with⟨z,rfl⟩|⟨z,rfl⟩<;>cases op<;>simp[eqGuard])
  simp_all[qf1]
 rcases D with⟨D,E⟩|⟨D,E⟩
 .obtain⟨v,J,K⟩:=qR L D M;obtain⟨c,z,F,rfl,R,U,h6,W,Q,h9⟩:=qmU (P:=P) K J N E w;rw[qV]at F;refine Res.pure r F (qjQ ho Ad ?_) (.b _);show(binOp op ty (a.eval x') z).run P w=_;have G:(Op.equal ty (a.eval x') z).run P w = .ok c w:=R;rw[Q op C,A];simp[G]
 .obtain⟨v,J,K⟩:=qR L D M;obtain⟨c,z,F,rfl,R,U,h6,W,Q,h9⟩:=qmU (P:=P) K J N E w;rw[qV]at F;refine Res.pure r F (qjQ ho (hg (.inl ⟨z,rfl⟩) W) ?_) (.b _);show(binOp op ty z (a.eval y')).run P w=_;have H:(Op.equal ty z (a.eval y')).run P w = .ok c w:=U;rw[h9 op C,A];simp[H]
end ops
omit [Cur] in
def VRs.splice{l:List AV}{c C:Array Value}{off:Nat}{vs:List AV}{vs':List Value}(I:VRs σ Z l c.toList)(D:VRs σ Z vs vs')(h:off+vs.length<=l.length)(E:Spl c off vs' C) :
  VRs σ Z (l.take off++(vs++l.drop (off+vs.length))) C.toList:=by
 have J:=I.length;have K:=D.length;have L:=E.size;refine VRs.of_get Ah ?_;intro j a z;rw[Array.getElem?_toList]
 by_cases H:j<off
 .rw[zzj (by simp;exact Ac),zzq H]at z
  grind[VRs.get,Spl.out]
 .rw[zzr (by simp;exact Ac)]at z;have G:(l.take off).length=off:=by simp;exact Ac
  rw[G]at z
  by_cases F:j<off+vs.length
  .rw[zzj Ac]at z;obtain⟨v,A,d⟩:=D.get z;refine⟨v,?_,d⟩;have:=E.inn _ _ A;rwa [show off+(j-off)=j from Ac]at this
  grind[VRs.get,Spl.out]
omit [Cur] in
def qqL(off:Nat):∀(z:List Value) (s:Nat) (c:Array Value),off+s+z.length<=c.size->
  Spl c (off+s) z ((z.zipIdx s).foldl (λD p=>D.setIfInBounds (off+p.2) p.1) c)
 | [],s,c,_=>⟨rfl,λ_ _=>rfl,λj v E=>Ah⟩
 | v::z,s,c,h=>by
  simp only[zze]at h;rw[List.zipIdx_cons,List.foldl_cons];have d:=qqL off z (s+1) (c.setIfInBounds (off+s) v) Ah;refine⟨by rw[d.size];simp,?_,?_⟩
  .intro j C;simp only[zze]at C;rw[d.out j Ac,zzw,if_neg Ac]
  .intro j u A;cases j with
   | zero =>
    simp at A;subst A;rw[d.out _ Ac,zzw];exact Ah
   | succ j =>
    have:=d.inn j u Ad;rwa [show off+(s+1)+j=off+s+(j+1)from Ac]at this
def qlX(G:jX σ){t:Tr AV}{a:Act}(N:TR σ Z t a.tmps)(qna:Nat->Option (Nat×Nat)):∀(J:List (Nat×Operand)) (d:List (Nat×Nat×O)) (l:List AV) (c:Array Value),qat qna J d=true->VRs σ Z l c.toList->
  ∀(k:List AV->Prop),qaj t d l k->∃C H,k C/\VRs σ Z C H.toList/\Instr.fill qna c (J.map λp=>(p.1,a.eval p.2))=some H
 | [],d,l,c,A,I,k,K=>by
  cases d with
  | nil=>exact⟨l,c,K,I,rfl⟩
  | cons=>simp[qat]at A
 | (i,x)::J,d,l,c,A,I,k,K=>by
  cases d with
  | nil=>simp[qat]at A
  | cons p d =>
   obtain⟨z,n,y⟩:=p;simp only[qat,zzB,beq_iff_eq]at A;obtain⟨⟨U,hx⟩,A⟩:=A;have M:evK t y (λv=>qn (qc7 v) (qq z (λz=>qio (cellsOf v) (λm=>qn (Nat.beq m n) (jB (cellsOf v) z l (λC=>qaj t d C k)))))):=K
   obtain⟨v,h1,h2⟩:=qR N hx M;obtain⟨hd,Q⟩:=(qc _ _).1 h1;rw[qy,wF]at Q;obtain⟨hn,Y⟩:=(qc _ _).1 Q;obtain⟨h5,h6⟩:=(jW _ _ _ _).1 Y;have F:=VRs.cells G h2 hd;have L:=F.length;have E:=I.length;have hn':(cellsOf v).length=n:=by simpa using hn
   have D:=qqL z (a.eval x).cells.toList 0 c (by simp at L E ⊢;exact Ac);obtain⟨C,H,h7,W,h9⟩:=qlX G N qna J d _ _ A (VRs.splice I F Ac D) k h6;refine⟨C,H,h7,W,?_⟩;have R:¬((a.eval x).cells.size≠n):=by simp at L;exact Ac
   have e2:¬(z+(a.eval x).cells.size > c.size):=by simp at L E;exact Ac
   simp only[zz3,Instr.fill,U];rw[if_neg (by simp;simp at R e2;exact Ac)];rw[<- h9]
   grind[Array.toList_zipIdx]
omit [Cur] in
def qni{z:List AV}{zero:Array Value}(G:VRs σ Z z zero.toList)(n:Nat)(d:Array Value)(h0:n*z.length=0\/d=zero) :
  VRs σ Z (List.replicate n z).flatten ((Array.range (n*z.length)).map (λi=>d[i % d.size]!)).toList:=by
 have K:=G.length;refine VRs.of_get Ad ?_;intro j a F
 have C:j<n*z.length:=by
  have:=(zzS.1 F).1
  exact Ad
 have D:0<z.length:=Nat.pos_of_ne_zero Ah;rcases h0 with h0|rfl
 .exact Ac
 .have J:j % z.length<z.length:=Nat.mod_lt _ D
  have I:z[j % z.length]?=some a:=by
   have E:∀(n j:Nat),j<n*z.length->(List.replicate n z).flatten[j]?=z[j % z.length]?:=by
    intro n
    induction n with
    | zero=>intro j C;simp at C
    | succ n H =>
     intro j C;rw[List.replicate_succ,List.flatten_cons]
     by_cases A:j<z.length
     .rw[zzj A,Nat.mod_eq_of_lt A]
     .rw[zzr Ac,H _ (by rw[Nat.add_mul,Nat.one_mul]at C;exact Ac)];rw[Nat.mod_eq_sub_mod (Ac:j ≥ z.length)]
   rw[<- E n j C];exact F
  grind[VRs.get]
omit [Cur] in
def qrj(z:Array Field)(E:∀f ∈ z.toList,(P.info? f.type).isSome=true)(w:World) :
  (z.mapM (λf=>(do pure (f.offset,<- sizeOf f.type):Sem (Nat×Nat)))).run P w = .ok (z.map λf=>(f.offset,P.cellsOf f.type)) w:=by
 have C:∀(l:List Field),(∀f ∈ l,(P.info? f.type).isSome=true)->(List.mapM (λ(f:Field)=>(do pure (f.offset,<- sizeOf f.type):Sem (Nat×Nat))) l).run P w = .ok (l.map λf=>(f.offset,P.cellsOf f.type)) w:=by
  intro l
  induction l with
  | nil=>intro _;simp
  | cons f l d =>
   intro D;obtain⟨j,A⟩:=zzx.1 (D f (by simp));rw[List.mapM_cons];simp only[Sem.run_bind,Sem.run_pure,sizeOf,typeInfo,run_program,A,Result.andThen_ok]at d ⊢;rw[d Ad];simp[Program.cellsOf,A]
 obtain⟨l⟩:=z;rw[List.mapM_toArray]
 exact Ad
section ops
variable {B:Nat->Prop}{h:Hp}{w:World}{a:Act}{t:Tr AV}{orc:Orc}{k:AV->Hp->Prop}{o:Oper}
def qwM(H:jX σ)(r:Rel σ Z B h w)(M:TR σ Z t a.tmps){z:List AV}{ps:List (Nat×Nat×O)}{ty:TypeId}{xs:Array (Nat×Operand)}(U:o.op = .build ty xs)(hz:qah P ty z=true)
  (C:(match P.underlying ty with
   | some (.struct A)=>qat (λi=>(A[i]?).bind λf=>(P.info? f.type).map λj=>(f.offset,j.size)) xs.toList ps&&A.toList.all λf=>(P.info? f.type).isSome
   | some (.array _ e)=>(match P.info? e with|some j=>qat (λi=>some (i*j.size,j.size)) xs.toList ps|none=>false)
   | _=>false)=true) (hk:opK orc (.build z ps) t h k):Res P σ Z B h w (execOp a.eval o) k:=by
 obtain⟨i,v,R,W,h3,h4⟩:=qdH hz;have N:=qb2 (σ:=σ) (Z:=Z) _ _ h3;have G:qaj t ps z (λcs=>k (.agg cs) h):=hk
 split at C<;>try (cases C;done)
 .rename_i A I;simp only[zzB]at C;obtain⟨l',D,J,L,K⟩:=qlX H M _ _ _ _ _ C.1 N _ G;refine Res.pure r J (v':=.agg D) ?_ (.agg _ _ L);have E:=qrj (P:=P) A Ah w
  have d:(λ(i:Nat)=>(A.map λ(f:Field)=>(f.offset,P.cellsOf f.type))[i]?)=(λ(i:Nat)=>(A[i]?).bind λ(f:Field)=>(P.info? f.type).map λj=>(f.offset,j.size)):=by
   funext i;rw[Array.getElem?_map];cases hi:A[i]? with
   | none=>rfl
   | some f =>
    have Y:f ∈ A.toList:=by
     rw[Array.getElem?_eq_some_iff]at hi;obtain⟨hlt,rfl⟩:=hi;simp
    have hs:=(zzy.1 C.2) f Y;obtain⟨j,hj⟩:=zzx.1 hs;simp[Program.cellsOf,hj]
  simp only[execOp,U,Instr.build,Sem.run_bind,qc3 R W,Result.andThen_ok,qt I,E,d];have F:Instr.fill (λi=>(A[i]?).bind λ(f:Field)=>(P.info? f.type).map λj=>(f.offset,j.size)) v.cells (xs.map λp=>(p.1,a.eval p.2)).toList=some D:=by rw[Array.toList_map];exact K
  exact Ad
 .rename_i n e I;cases Q:P.info? e with
  | none=>exact Ad
  | some j =>
   simp only[Q]at C;obtain⟨l',D,J,L,K⟩:=qlX H M _ _ _ _ _ C N _ G;refine Res.pure r J (v':=.agg D) ?_ (.agg _ _ L);have F:Instr.fill (λi=>some (i*j.size,j.size)) v.cells (xs.map λp=>(p.1,a.eval p.2)).toList=some D:=by rw[Array.toList_map];exact K
   simp only[execOp,U,Instr.build,Sem.run_bind,qc3 R W,Result.andThen_ok,qt I,sizeOf,typeInfo,run_program,Q,Sem.run_pure,F]
def quB(M:jX σ)(r:Rel σ Z B h w)(U:TR σ Z t a.tmps){n:Nat}{z:List AV}{ps:List (Nat×Nat×O)}{ty e:TypeId}{xs:Array (Nat×Operand)}(ho:o.op = .buildSlice ty n xs)(he:zS P ty=some e)(hz:qah P e z=true)(hb:n*z.length<=16777216)
  {j:TypeInfo}(K:P.info? e=some j) (Y:qat (λi=>some (i*j.size,j.size)) xs.toList ps=true) (W:opK orc (.buildS n z ps) t h k):Res P σ Z B h w (execOp a.eval o) k:=by
 obtain⟨i,v,Q,h2,h3,h4⟩:=qdH hz;rw[K]at Q;cases Q;have N:=qb2 (σ:=σ) (Z:=Z) _ _ h3;have hl:=N.length;have D:z.length=j.size:=Ad
 have E:qkw z n (λI=>qaj t ps I (λI=>x6 h (.cells 0 true false I) (λb L=>k (.sl b 0 n n false) L))):=W
 rw[qaz]at E;have C:=qni N n (if n*z.length=0 then #[]else v.cells) (by split<;>simp_all)
 obtain⟨l',F,h5,h6,R⟩:=qlX M U _ _ _ _ _ Y C _ E;have hl6:=h6.length;obtain⟨Z',L,h8,h9,J,G⟩:=qeb (w1:={ w with heap:=w.heap.push (.cells F e) }) r (c:=F) Ah h5 rfl;refine⟨_,_,L,Z',_,h8,.inl (?_:_=Result.ok (Next.value (.slice (some ⟨w.heap.size,0+0,none⟩) n n)) { w with heap:=w.heap.push (.cells F e) }),.sl _ 0 _ _ _ _ _ G (.inl rfl),h9,J⟩;have H:¬(n*j.size > 2 ^ 24):=by rw[<- D];exact Ac
 have d:Instr.fill (λi=>some (i*j.size,j.size)) ((Array.range (n*j.size)).map (λi=>(if n*j.size=0 then #[]else v.cells)[i % (if n*j.size=0 then #[]else v.cells).size]!)) (xs.map λp=>(p.1,a.eval p.2)).toList=some F:=by
  rw[Array.toList_map];rw[D]at R;exact R
 simp only[execOp,ho,Instr.buildSlice,Sem.run_bind,qt (zo he),Result.andThen_ok,sizeOf,typeInfo,run_program,K,Sem.run_pure];rw[if_neg H]
 by_cases A:n*j.size=0
 .simp only[A,if_true]at d ⊢;simp only[Sem.run_bind,Sem.run_pure,Result.andThen_ok,d,newRow,run_newObj,Nat.add_zero]
 .simp only[A,if_false]at d ⊢;simp only[Sem.run_bind,qc3 K h2,Sem.run_pure,Result.andThen_ok,d,newRow,run_newObj,Nat.add_zero]
omit [Cur] in
def qjt{n:Nat}(h:n<=70368744177664):IntKind.i64.wrap (n:Int)=n:=by
 refine Cb ?_;exact Ac
def qGA(r:Rel σ Z B h w)(ht:TR σ Z t a.tmps){K bytes:Nat}{z:List AV}{len cap:O}{l' Y:Operand}{ty e:TypeId}(ho:o.op = .makeSlice ty l' Y)(H:qA l' len=true)(I:qA Y cap=true)(he:zS P ty=some e)(hb:qbE P e bytes=true)(hz:qah P e z=true)(hk:opK orc (.mkS K bytes z len cap) t h k):Res P σ Z B h w (execOp a.eval o) k:=by
 obtain⟨i,v,G,h2,h3,h4⟩:=qdH hz;obtain⟨i',E,h5⟩:=qi2 hb;rw[G]at E;cases E;have hv:=qb2 (σ:=σ) (Z:=Z) _ _ h3;have hl:=hv.length;have Q:z.length=i.size:=Ad
 obtain⟨u,h6,h7⟩:=qR ht H hk;obtain⟨x,h8,h9⟩:=qR ht I h6;obtain⟨q,n,e1,U⟩:=qeg h7 h8;obtain⟨q',m,e2,d⟩:=qeg h9 U;obtain⟨L,d⟩:=(qc _ _).1 d;obtain⟨F,d⟩:=(qc _ _).1 d;obtain⟨A,d⟩:=(qc _ _).1 d;rw[qaz]at d;rw[qei]at L F A;have g1:n<=m:=Ad
 have g2:m<=70368744177664:=of_decide_eq_true F;have g3:bytes*m<=70368744177664:=of_decide_eq_true A;have D:=qni hv m (if m*z.length=0 then #[]else v.cells) (by split<;>simp_all)
 have R:=D.length;obtain⟨Z',h',N,M,W,J⟩:=qeb (w1:={ w with heap:=w.heap.push (.cells ((Array.range (m*z.length)).map (λi=>(if m*z.length=0 then #[]else v.cells)[i % (if m*z.length=0 then #[]else v.cells).size]!)) e) }) r ⟨_,rfl,by rw[R,zz0];exact Ac⟩ d rfl
 refine⟨_,_,h',Z',_,N,.inl (?_:_=Result.ok (Next.value (.slice (some ⟨w.heap.size,0+0,none⟩) n m)) { w with heap:=w.heap.push (.cells ((Array.range (m*z.length)).map (λi=>(if m*z.length=0 then #[]else v.cells)[i % (if m*z.length=0 then #[]else v.cells).size]!)) e) }),.sl _ 0 _ _ _ _ _ J (.inl rfl),M,W⟩
 have w1:=qjt (zzg g1 g2);have w2:=qjt g2;have t1:¬((m:Int)<0):=Ac
 have t2:¬((n:Int)<0):=Ac
 have t3:¬((n:Int) > (m:Int)):=Ac
 have t4:¬((i.bytes:Int)*(m:Int) > 2 ^ 48):=by
  rw[h5];have:((bytes*m:Nat):Int)<=70368744177664:=Int.ofNat_le.2 g3;rw[Int.natCast_mul]at this;exact Ac
 have hs:(sizeOf e).run P w = .ok i.size w:=zM (by unfold qZ;rw[G];simp) w;simp only[execOp,ho,Instr.makeSlice,Sem.run_bind,qt (zo he),Result.andThen_ok,e1,e2,asInt,asIntOf,Sem.run_pure,qx6 G,w1,w2];simp only[t1,t2,t3,t4,decide_false,Bool.or_false,Bool.false_eq_true,if_false,Sem.run_bind,run_askRoom,Result.andThen_ok,Int.toNat_natCast,hs];rw[Q]
 by_cases C:m*i.size=0
 .simp only[C,if_true];simp only[Sem.run_bind,Sem.run_pure,Result.andThen_ok,newRow,run_newObj,Nat.add_zero]
 .simp only[C,if_false];simp only[Sem.run_bind,qc3 G h2,Sem.run_pure,Result.andThen_ok,newRow,run_newObj,Nat.add_zero]
end ops
section ops
variable {B:Nat->Prop}{h:Hp}{w:World}{a:Act}{t:Tr AV}{orc:Orc}{k:AV->Hp->Prop}{o:Oper}
omit [Cur] in
def qqn(l:List UInt8):VRs σ Z (l.map λc=>AV.i .u8 (Int.ofNat c.toNat)) (l.map λc=>Value.int .u8 (c.toNat:Int)):=by
 induction l with
 | nil=>exact .nil
 | cons c l z=>exact .cons _ _ _ _ (.i _ _) z
omit [Cur] in
def qoP(w:World)(a:Addr):(loadCells a 0).run P w = .ok #[] w:=by
 have:=run_loadCells_list (P:=P) w a [] Ad;exact Ac
omit [Cur] in
def qkP(w:World)(z:Nat)(a:Option Addr):(Builtin.firstCells z 0 (.slice a 0 0)).run P w = .ok #[] w:=by
 cases a with
 | none=>simp[Builtin.firstCells]
 | some a=>simpa[Builtin.firstCells]using qoP (P:=P) w a
def qsD(r:Rel σ Z B h w){z:Nat}{x:AV}{x':Value}(F:VR σ Z x x'){k:Nat->List AV->Prop}(E:qbY h z x k) :
  ∃n A H,k n A/\VRs σ Z A H/\H.length=n*z/\(∀d,d.heap=w.heap->(Builtin.lenOf x').run P d = .ok n d)/\(∀m,m<=n->∀d,d.heap=w.heap->(Builtin.firstCells z m x').run P d = .ok (H.take (m*z)).toArray d):=by
 cases x<;>try exact E.elim
 .-- a string
  rename_i l;obtain⟨h1,D⟩:=(qc _ _).1 E;rw[qy]at D;have he:z=1:=Eb
  subst he;have e:=F.un_s;refine⟨l.length,_,_,D,qqn l,by simp,λd _=>by rw[e];simp[Builtin.lenOf,qhY],λm C d _=>?_⟩
  rw[e];simp only[Builtin.firstCells,Sem.run_pure,zzU]
  exact Ad
 .exact⟨0,[],[],E,.nil,by simp,λd _=>by rw[F.un_nils];simp[Builtin.lenOf],λm C d _=>by rw[F.un_nils];simp[Builtin.firstCells]⟩
 .rename_i b o n cap Y;obtain⟨L,c,K,h1,D,Q⟩:=F.un_sl;obtain⟨A,H,W,h5,h6,h7⟩:=qe3 r h1 (show qb4 h b o (n*z) (λA=>k n A)from E)
  refine⟨n,A,H,W,h5,h6,λd _=>by rw[D];simp[Builtin.lenOf],λm C d hw=>?_⟩
  rw[D];refine Gf ?_;have G:m*z<=n*z:=Nat.mul_le_mul_right _ C;refine qcD (by simp;exact Ac) (λj v I=>?_)
  rw[List.getElem?_take]at I;split at I
  .have:=h7 j v I;rcases Q with⟨rfl,_⟩|⟨Q,_,_⟩
   .have R:∀a,d.cell? a=w.cell? a:=λa=>Dv
    rw[R];exact this
   .subst Q;simp at G;exact Ac
  exact Ad
 .-- a row that stays
  rename_i n A;obtain⟨h1,D⟩:=(zk _ _ _).1 E;have h1:n*z<=A.length:=h1;rcases F.un_fz with⟨k0,K,c,arr,e1,e2,e3,e5⟩|⟨rfl,rfl,N,e1⟩
  .have U:=e5.length;refine⟨n,_,((arr.toList.drop K).take A.length).take (n*z),D,(e5.take _).vr,by simp at U ⊢;exact Ac,λd _=>Cu,λm C d hw=>?_⟩
   rw[e1];refine Gf ?_;have G:m*z<=n*z:=Nat.mul_le_mul_right _ C
   grind[qcD,Rel.frz,qbD]
  .exact⟨0,_,[],D,Fx,by simp,λd _=>Cu,λm C d _=>G7⟩
 .obtain⟨N,e1⟩:=F.un_e0
  exact⟨0,[],[],E,.nil,by simp,λd _=>Cu,λm C d _=>G7⟩
 .rename_i b n;have M:qb4 h b 0 (n*z) (λA=>k n A):=E
  rcases F.un_own with⟨rfl,⟨N,e1⟩,_⟩|⟨L,c,h1,D,Q,e1⟩
  .obtain⟨e,wf,af,A,hg,J⟩:=(zh _ _ _).1 M;obtain⟨_,J⟩:=(zP _ _ _).1 J;obtain⟨_,J⟩:=(zk _ _ _).1 J;simp only[Nat.zero_mul,List.take_zero]at J
   exact⟨0,[],[],J,.nil,by simp,λd _=>Cu,λm C d _=>G7⟩
  .obtain⟨A,H,W,h5,h6,h7⟩:=qe3 r h1 M;refine⟨n,A,H,W,h5,h6,λd _=>Cu,λm C d hw=>?_⟩
   rw[e1];refine Gf ?_;have G:m*z<=n*z:=Nat.mul_le_mul_right _ C;refine qcD (by simp;exact Ac) (λj v I=>?_)
   rw[List.getElem?_take]at I;split at I
   .have:=h7 j v I;have R:∀a,d.cell? a=w.cell? a:=λa=>Dv
    rw[R];exact D0
   exact Ad
 .obtain⟨N,c0,e1⟩:=F.un_nz
  exact⟨0,[],[],E,.nil,by simp,λd _=>Cu,λm C d _=>by
   obtain rfl:m=0:=Ac
   rw[e1];simpa[Builtin.firstCells]using qkP (P:=P) d z (some N)⟩
omit [Cur] in
theorem jw{ts F rt A:TypeId}{args:Array TypeId}(h0:args[0]?=some ts)(h1:args[1]?=some F)(G:P.underlying ts=some (.slice A))(C:P.underlying F=some .string\/∃e,P.underlying F=some (.slice e)){z:Nat}(H:qZ P A z=true)
  {x':Value}{n sLen sCap:Nat}{a0:Option Addr}{new:Array Value}{w w':World}(I:(Builtin.lenOf x').run P w = .ok n w) (J:(Builtin.firstCells z n x').run P w = .ok new w) (d:sLen+n<=sCap)
  (E:∀a,a0=some a->(storeCells (a.add (sLen*z)) new.toList).run P w = .ok () w') (D:a0=none->w'=w) :
  (Builtin.append_ args rt #[.slice a0 sLen sCap,x']).run P w = .ok (.slice a0 (sLen+n) sCap) w':=by
 rcases C with C|⟨e,C⟩<;>cases a0 with
 | none=>obtain rfl:=D rfl;simp[Builtin.append_,h0,h1,qt G,qt C,zM H,I,d,J]
 | some a=>simp[Builtin.append_,h0,h1,qt G,qt C,zM H,I,d,J,E a rfl]
omit [Cur] in
def qhV(z:Array Value)(n:Nat):(Builtin.zeroCells z n).size=n*z.size:=by simp[Builtin.zeroCells]
omit [Cur] in
def qdp{ts K rt d:TypeId}{args:Array TypeId}(h0:args[0]?=some ts)(h1:args[1]?=some K)(hu:P.underlying ts=some (.slice d))(H:P.underlying K=some .string\/∃e,P.underlying K=some (.slice e)){C:Nat}{i:TypeInfo}(hi:P.info? d=some i)(M:i.size=C){z:Value}(U:i.zero=some z)
  {x':Value}{n sLen sCap:Nat}{a0:Option Addr}{new old:Array Value}{w:World}(W:(Builtin.lenOf x').run P w = .ok n w) (hf:(Builtin.firstCells C n x').run P w.drew = .ok new w.drew) (ho:(Builtin.firstCells C sLen (.slice a0 sLen sCap)).run P w.drew = .ok old w.drew)
  (E:sCap<sLen+n) (I:sLen+n<=qe) (J:(sLen+n)*i.bytes<=qe) :
  ∃A D G,sLen+n<=A/\D.size=(A-(sLen+n))*z.cells.size/\G.heap=w.heap.push (.cells (old++new++D) d)/\(G.os=w.os/\G.output=w.output) /\
   (Builtin.append_ args rt #[.slice a0 sLen sCap,x']).run P w = .ok (.slice (some ⟨w.heap.size,0,none⟩) (sLen+n) A) G:=by
 have Y:¬(sLen+n<=sCap):=Ac
 have N:sLen+n<=70368744177664:=I;have Q:(sLen+n)*i.bytes<=70368744177664:=J;have R:¬(IntKind.max .i64<((sLen+n:Nat):Int)):=by show¬((9223372036854775807:Int)<_);exact Ac
 have F:¬(9223372036854775807<((sLen:Int)+(n:Int))):=Ac
 have L:¬(281474976710656<Builtin.nextslicecap (sLen+n) sCap*i.bytes):=by
  have:=growslice_fits (bytes:=i.bytes) E Ac;exact Ac
 refine⟨grownCap w (sLen+n) sCap d,Builtin.zeroCells z.cells (grownCap w (sLen+n) sCap d-(sLen+n)),w.drew.alloc (.cells (old++new++Builtin.zeroCells z.cells (grownCap w (sLen+n) sCap d-(sLen+n))) d),?_,qhV _ _,rfl,⟨rfl,rfl⟩,?_⟩
 .exact Nat.le_add_right (sLen+n) _
 .rcases H with H|⟨e,H⟩ <;>
  simp[Builtin.append_,h0,h1,qt hu,qt H,sizeOf,typeInfo,zeroValue,hi,U,M,W,Y,F,L,Question.forced,hf,ho,newRow,grownCap]
omit [Cur] in
def qir{ts W rt d:TypeId}{args:Array TypeId}(h0:args[0]?=some ts)(h1:args[1]?=some W)(hu:P.underlying ts=some (.slice d)){q:IntKind}(hx:P.underlying W=some (.int q)){A:Nat}{i:TypeInfo}(hi:P.info? d=some i)(L:i.size=A){z:Value}(hz:i.zero=some z)(U:z.cells.size=A)
  {q':IntKind}{n sLen sCap:Nat}{a0:Option Addr}{old:Array Value}{w:World}(ho:(Builtin.firstCells A sLen (.slice a0 sLen sCap)).run P w.drew = .ok old w.drew)
  (H:sCap<sLen+n) (N:sLen+n<=qe) (Q:(sLen+n)*i.bytes<=qe) :
  ∃C E M,sLen+n<=C/\E.size=(C-(sLen+n))*z.cells.size/\M.heap=w.heap.push (.cells (old++(Array.range (n*A)).map (λi=>z.cells[i % z.cells.size]!)++E) d)/\(M.os=w.os/\M.output=w.output) /\
   (Builtin.append_ args rt #[.slice a0 sLen sCap,.int q' (n:Int)]).run P w = .ok (.slice (some ⟨w.heap.size,0,none⟩) (sLen+n) C) M:=by
 have hn:¬(sLen+n<=sCap):=Ac
 have Y:sLen+n<=70368744177664:=N;have I:(sLen+n)*i.bytes<=70368744177664:=Q;have F:¬(9223372036854775807<((sLen:Int)+(n:Int))):=Ac
 have J:¬(281474976710656<Builtin.nextslicecap (sLen+n) sCap*i.bytes):=by
  have:=growslice_fits (bytes:=i.bytes) H Ac;exact Ac
 have hw:IntKind.wrap .i64 (n:Int)=(n:Int):=qjt Ac;have D:¬((n:Int)<0):=Ac
 have R:n*i.bytes<=70368744177664:=zzg (Nat.mul_le_mul_right _ (Nat.le_add_left _ _)) I
 have G:¬(281474976710656<(n:Int)*(i.bytes:Int)):=by
  have:((n*i.bytes:Nat):Int)<=70368744177664:=Int.ofNat_le.2 R;rw[Int.natCast_mul]at this;exact Ac
 refine⟨grownCap w (sLen+n) sCap d,Builtin.zeroCells z.cells (grownCap w (sLen+n) sCap d-(sLen+n)),w.drew.alloc (.cells (old++(Array.range (n*A)).map (λi=>z.cells[i % z.cells.size]!)++Builtin.zeroCells z.cells (grownCap w (sLen+n) sCap d-(sLen+n))) d),?_,qhV _ _,rfl,⟨rfl,rfl⟩,?_⟩
 .exact Nat.le_add_right (sLen+n) _
 .by_cases K:n*A=0
  .simp[Builtin.append_,h0,h1,qt hu,qt hx,sizeOf,typeInfo,zeroValue,hi,hz,L,hn,F,J,G,hw,D,asInt,asIntOf,Question.forced,ho,newRow,grownCap,K];rw[show Array.map (λi=>z.cells[i % z.cells.size]!) (Array.range 0) = #[]from by simp,Array.empty_append]
  .simp[Builtin.append_,h0,h1,qt hu,qt hx,sizeOf,typeInfo,zeroValue,hi,hz,L,hn,F,J,G,hw,D,asInt,asIntOf,Question.forced,ho,newRow,grownCap,K,Builtin.zeroCells,U]
omit [Cur] in
def VRs.pre{zy:List AV}{c:Array Value}{vs d:List Value}(h:VRs σ Z zy vs)(A:c.toList=vs++d):∃z:List Value,c.toList=z/\VRs σ Z zy (z.take zy.length) :=
 ⟨_,A,by rw[h.length,List.take_left];exact h⟩
def qAE(r:Rel σ Z B h w)(ht:TR σ Z t a.tmps){A bytes:Nat}{z:List AV}{s x:O}{s' x':Operand}{ts tx G:TypeId}{args:Array TypeId}{ops:Array Operand}(ho:o.op = .call ⟨.builtin .append,ops,args⟩)(hops:ops.toList=[s',x'])
  (W:args[0]?=some ts) (h1':args[1]?=some tx) (he:zS P ts=some G) (hx:qkV P tx=true) (hs:qZ P G A=true) (hb:qbE P G bytes=true) (hz:qah P G z=true)
  (hc1:qA s' s=true) (hc2:qA x' x=true) (hk:opK orc (.appZ A bytes z s x) t h k):Res P σ Z B h w (execOp a.eval o) k:=by
 obtain rfl:ops = #[s',x']:=by cases ops;simpa using hops
 obtain⟨i,v,hi,hzv,hvr,N⟩:=qdH hz;obtain⟨i',J,H⟩:=qla hs;rw[hi]at J;cases J;obtain⟨i',J,hby⟩:=qi2 hb;rw[hi]at J;cases J
 obtain⟨q,hq⟩:∃q,P.underlying tx=some (.int q):=by
  unfold qkV at hx;split at hx
  .exact⟨_,by assumption⟩
  .cases hx
 have hv:=qb2 (σ:=σ) (Z:=Z) _ _ hvr;have hl:=hv.length;have hzl:z.length=A:=by simp at hl;exact Ac
 obtain⟨u,h2,h3⟩:=qR ht hc1 hk;obtain⟨v2,h4,h5⟩:=qR ht hc2 h2;obtain⟨q',n,e1,D⟩:=qeg h5 h4;have hu:=zo he;cases u<;>try exact D.elim
 .have g2:=h3.un_nils;obtain⟨h7,D⟩:=(qc (Nat.ble 1 n) _).1 D;obtain⟨h8,D⟩:=(qc (Nat.ble n qe) _).1 D;obtain⟨h9,D⟩:=(qc (Nat.ble (n*bytes) qe) _).1 D;rw[qei]at h7 h8 h9;have b0:1<=n:=of_decide_eq_true h7;have b1:n<=qe:=by simpa using h8
  have b2:n*bytes<=qe:=by simpa using h9
  rw[qaz]at D;obtain⟨d,C,K,e3,e5,e6,R,e7⟩:=qir (rt:=o.type) (q':=q') (a0:=none) (sLen:=0) (sCap:=0) (n:=n) W h1' hu hq hi H hzv (by rw[N];exact H) (old:=#[]) (w:=w) (by simp[Builtin.firstCells]) Ac Ac (by rw[hby,Nat.zero_add];exact b2);have E:=qni hv n v.cells (.inr rfl);rw[hzl]at E;have F:(#[]++(Array.range (n*A)).map (λi=>v.cells[i % v.cells.size]!)++C:Array Value).toList=((Array.range (n*A)).map (λi=>v.cells[i % v.cells.size]!)).toList++C.toList:=by simp
  obtain⟨Z',h',f3,f4,f5,f6⟩:=qeb (w1:=K) r (c:=#[]++(Array.range (n*A)).map (λi=>v.cells[i % v.cells.size]!)++C) (VRs.pre E F) D e6 (hio:=R)
  refine⟨_,.slice (some ⟨w.heap.size,0,none⟩) n d,h',Z',K,f3,.inl ?_,?_,f4,f5⟩
  .simp only[execOp,ho,resolve,invoke,builtin];simp[g2,e1];rw[e7];simp
  .exact VR.own _ _ d _ f6 Ac (by
    have M:(#[]++(Array.range (n*A)).map (λi=>v.cells[i % v.cells.size]!)++C:Array Value).size=n*A+(d-(0+n))*A:=by
     rw[Array.size_append,e5,N,H];simp
    have Y:n+(d-(0+n))=d:=Ac
    rw[M,<- Nat.add_mul,Y];show 0+d*A<=d*A;exact Ac)
 rename_i b o' len cap I;obtain⟨L,c,off,g1,g2,g3⟩:=h3.un_sl;obtain⟨hlo,D⟩:=(qc (!I) _).1 D;obtain rfl:I=false:=by simpa using hlo
 have hcc:c=cap:=by
  rcases g3 with⟨_,M|⟨M,_⟩⟩|⟨_,M,Y⟩
  .exact M
  .cases M
  .exact Y.trans M.symm
 obtain⟨h7,D⟩:=(qc (Nat.ble (cap+1) (len+n)) _).1 D;obtain⟨h8,D⟩:=(qc (Nat.ble (len+n) qe) _).1 D;obtain⟨h9,D⟩:=(qc (Nat.ble ((len+n)*bytes) qe) _).1 D;rw[qei]at h7 h8 h9;have b0:cap<len+n:=by have:=of_decide_eq_true h7;exact Ac
 have b1:len+n<=qe:=by simpa using h8
 have b2:(len+n)*bytes<=qe:=by simpa using h9
 obtain⟨ds,U,f1,hds,Q,e4⟩:=qe3 r g1 D;rw[qaz,wp]at f1
 have hold:∀K,K.heap=w.heap->(Builtin.firstCells A len (.slice (some ⟨L.blk,off,none⟩) len c)).run P K = .ok U.toArray K:=by
  intro K hw;refine Gf ?_;refine qcD Q (λj v hj=>?_)
  have hc:∀a,K.cell? a=w.cell? a:=λa=>Dv
  rcases g3 with⟨rfl,_⟩|⟨g3,_,_⟩
  .rw[hc];exact e4 j v hj
  .subst g3;simp at Q;subst Q;simp at hj
 obtain⟨d,C,K,e3,e5,e6,R,e7⟩:=qir (rt:=o.type) (q':=q') (a0:=some ⟨L.blk,off,none⟩) (sLen:=len) (sCap:=c) (n:=n) W h1' hu hq hi H hzv (by rw[N];exact H) (old:=U.toArray) (hold w.drew rfl) Ac b1 F8;have E:=qni hv n v.cells (.inr rfl);rw[hzl]at E;have hnl:((Array.range (n*A)).map (λi=>v.cells[i % v.cells.size]!)).toList.length=n*A:=by simp
 have F:(U.toArray++(Array.range (n*A)).map (λi=>v.cells[i % v.cells.size]!)++C:Array Value).toList=(U++((Array.range (n*A)).map (λi=>v.cells[i % v.cells.size]!)).toList)++C.toList:=by simp
 obtain⟨Z',h',f3,f4,f5,f6⟩:=qeb (w1:=K) r (c:=U.toArray++(Array.range (n*A)).map (λi=>v.cells[i % v.cells.size]!)++C) (VRs.pre (hds.append E) F) f1 e6 (hio:=R)
 refine⟨_,.slice (some ⟨w.heap.size,0,none⟩) (len+n) d,h',Z',K,f3,.inl ?_,?_,f4,f5⟩
 .simp only[execOp,ho,resolve,invoke,builtin];simp[g2,e1];rw[e7];rfl
 .exact VR.own _ _ d _ f6 Ac (by
   have M:(U.toArray++(Array.range (n*A)).map (λi=>v.cells[i % v.cells.size]!)++C:Array Value).size=(len*A+n*A)+(d-(len+n))*A:=by
    rw[Array.size_append,e5,N,H];simp[Q]
   have Y:len+n+(d-(len+n))=d:=Ac
   rw[M,<- Nat.add_mul,<- Nat.add_mul,Y];show 0+d*A<=d*A;exact Ac)
def quw(hσ:jX σ)(r:Rel σ Z B h w){C bytes:Nat}{consume:Bool}{s' x':Operand}{ts tx K:TypeId}{args:Array TypeId}{b D len cap:Nat}(h3:VR σ Z (.sl b D len cap true) (a.eval s'))
  (h0':args[0]?=some ts) (h1':args[1]?=some tx) (hu:P.underlying ts=some (.slice K)) (hx:P.underlying tx=some .string\/∃e,P.underlying tx=some (.slice e)) (hs:qZ P K C=true) {i:TypeInfo}(hi:P.info? K=some i) {z:Value}(hz:i.zero=some z) (hzs:z.cells.size=i.size) (hsz:i.size=C) (hby:i.bytes=bytes)
  {n:Nat}{Y:List AV}{vs:List Value}(h7:VRs σ Z Y vs) (h8:vs.length=n*C) (h9:∀d,d.heap=w.heap->(Builtin.lenOf (a.eval x')).run P d = .ok n d) (h10:∀m,m<=n->∀d,d.heap=w.heap->(Builtin.firstCells C m (a.eval x')).run P d = .ok (vs.take (m*C)).toArray d)
  (E:∀{r:Value}{d:World},(Builtin.append_ args o.type #[a.eval s',a.eval x']).run P w = .ok r d->(execOp a.eval o).run P w = .ok (.value r) d)
  (h6:qq (len+n) (λM=>qn (Nat.ble M qe) (qn (Nat.ble (Nat.mul M bytes) qe) (qn (and consume (Nat.beq cap len)) (qas h b (λe w a I=>qn (qF Y) (qn w (qn a (qn (Nat.beq e C) (qio I (λq=>qn (Nat.beq q (Nat.add D (Nat.mul len C))) (qcM D I (λzs=>qmt zs Y (λcs' =>
    jG h b .dead (λh1=>x6 h1 (.cells C true true cs') (λb' h'=>k (.own b' M) h')))))))))))))))):Res P σ Z B h w (execOp a.eval o) k:=by
 have hfull:∀d,d.heap=w.heap->(Builtin.firstCells C n (a.eval x')).run P d = .ok vs.toArray d:=Ah
 have h6':=(Iff.of_eq (qy (len+n) _)).1 h6;clear h6;obtain⟨h11,h12⟩:=(qc _ _).1 h6';obtain⟨h13,h14⟩:=(qc _ _).1 h12;rw[qei]at h11 h13;have b1:len+n<=qe:=Ad;have b2:(len+n)*bytes<=qe:=Ad;obtain⟨Q,h15⟩:=(qc _ _).1 h14;simp only[zzB]at Q;obtain rfl:cap=len:=Nat.eq_of_beq_eq_true Q.2;obtain⟨e,wf,af,I,hg,h16⟩:=(zh _ _ _).1 h15;obtain⟨hco,h17⟩:=(qc (qF Y) _).1 h16;obtain⟨hwf,h18⟩:=(qc wf _).1 h17;obtain⟨haf,h19⟩:=(qc af _).1 h18;obtain⟨hee,F⟩:=(qc (Nat.beq e C) _).1 h19;clear h14 h15 h16 h17 h18 h19;subst hwf haf;have hee:e=C:=Ad
 subst hee;rw[wF]at F;obtain⟨hm,F⟩:=(qc _ _).1 F;have hm:I.length=D+cap*e:=Ad
 obtain⟨hod,F⟩:=(zP _ _ _).1 F;rw[wp]at F;obtain⟨hf,N⟩:=(xb _ _ _ _).1 F;obtain⟨r1,k1⟩:=r.weak hg hf .dead (.inl rfl);obtain⟨L,c,off,g1,g2,g3⟩:=h3.un_sl;have J:=(zD _ _ _).1 N;obtain⟨hLe,cc,cty,cfz,f1,f2,f3,f4,f5⟩:=r.cells b L e true true I g1 hg
 have hrow:∃H,VRs σ Z (I.drop D) H/\H.length=cap*e/\(∀j v,H[j]?=some v->w.cell? ⟨L.blk,L.off+D+j,none⟩=some v):=by
  obtain⟨ds,H,e1,e2,e3,e4⟩:=qe3 r g1 (off:=D) (n:=cap*e) (k:=λl=>l=I.drop D) (by
   refine(zh _ _ _).2 ⟨_,_,_,_,hg,(zP _ _ _).2 ⟨hod,(zk _ _ _).2 ⟨by simp;exact Ac,?_⟩⟩⟩
   rw[zzt (by simp;exact Ac)])
  exact Ah
 obtain⟨H,e2,e3,e4⟩:=hrow
 have anew:∀{a0:Option Addr}{c:Nat},a.eval s' = .slice a0 cap c->c<cap+n->
   (∀d,d.heap=w.heap->(Builtin.firstCells e cap (.slice a0 cap c)).run P d = .ok H.toArray d)->Res P σ Z B h w (execOp a.eval o) k:=by
  intro a0 c ev hlt R;obtain⟨A,G,d,q3,q4,q5,eio,q6⟩:=qdp (rt:=o.type) (a0:=a0) (sLen:=cap) (sCap:=c) h0' h1' hu hx hi hsz hz (h9 w rfl) (hfull w.drew rfl) (old:=H.toArray) (R w.drew rfl) hlt b1 F8;have W:(H.toArray++vs.toArray++G:Array Value).toList=(H++vs)++G.toList:=by simp
  obtain⟨Z',h',q7,q8,q9,q10⟩:=qeb (w1:=d) r1 (c:=H.toArray++vs.toArray++G) (VRs.pre (e2.append h7) W) N q5 (hio:=eio);refine⟨_,_,h',Z',d,q7,.inl (E (by rw[ev];exact q6)),?_,q8,k1.trans q9⟩
  exact VR.own _ _ A _ q10 Ac (by
   have p1:(H.toArray++vs.toArray++G:Array Value).size=(cap*e+n*e)+(A-(cap+n))*e:=by
    rw[Array.size_append,q4,hzs,hsz];simp[h8,e3]
   have p2:cap+n+(A-(cap+n))=A:=Ac
   rw[p1,<- Nat.add_mul,<- Nat.add_mul,p2];exact Ad)
 have R:(off=L.off+D\/cap=0)->∀d,d.heap=w.heap->(Builtin.firstCells e cap (.slice (some ⟨L.blk,off,none⟩) cap c)).run P d = .ok H.toArray d:=by
  intro ho d hw;refine Gf ?_;refine qcD e3 (λj v hj=>?_)
  have hc:∀a,d.cell? a=w.cell? a:=λa=>Dv
  exact Ah
 rcases g3 with⟨rfl,hc⟩|⟨hl0,hc0,hcr⟩
 .by_cases hlt:c<cap+n
  .exact Ad
  .have U:L.off+D+c*e<=L.size/\cap<=c:=Ah
   have hmul:(cap+n)*e<=c*e:=Nat.mul_le_mul_right _ Ac;rw[Nat.add_mul]at hmul;have hcl:=h7.length;obtain⟨cc',hspl,hw⟩:=qdu vs (L.off+I.length) w cc f1 (by rw[h8];exact Ac);obtain⟨r2,k2⟩:=r.grow g1 hg hf D hod Y vs h7 (by rw[hcl,h8];exact Ac) .dead true Ad f1 hspl hw (qeM _ _ _ _)
   have hst:=run_storeCells_cells (P:=P) L.blk (L.off+I.length) vs 0 w (λj hj=>by
     rw[qbD f1];exact Ah) (λj hj=>by
     rw[qi9 f1];simp only[decide_eq_false_iff_not];exact f5 (by simp) _ Ac) (qfX hσ h7 hco)
   refine⟨_,.slice (some ⟨L.blk,L.off+D,none⟩) (cap+n) c,_,_,w.setCells L.blk (L.off+I.length) vs,J,.inl (E ?_),?_,r2,k2⟩
   .rw[g2];refine jw h0' h1' hu hx hs (h9 w rfl) (hfull w rfl) Ac (λa0 ha0=>?_) Ah
    cases ha0;rw[x7];have:L.off+D+cap*e=L.off+I.length:=Ac
    rw[this];exact Ac
   .exact VR.own (σ:=σ) (Z:=Z.add h.sz ⟨L.blk,L.off+D,L.size,e⟩) h.sz (cap+n) c ⟨L.blk,L.off+D,L.size,e⟩ (Ren.add_self _ _ _) Ac U.1
 .obtain rfl:cap=0:=Ac
  obtain rfl:c=0:=Ac
  cases n with
  | succ n=>exact Ah
  | zero =>
   have hvs:vs=[]:=Ad
   obtain⟨r2,k2⟩:=r1.idle (.cells e true true (I.drop D++Y));refine⟨_,.slice (some ⟨L.blk,off,none⟩) 0 0,_,_,w,J,.inl (E ?_),.own0 _ _ (zzh Ac (Nat.le_max_right _ _)),r2,k1.trans k2⟩;rw[g2];exact Bc
def qwr(hσ:jX σ)(r:Rel σ Z B h w)(ht:TR σ Z t a.tmps){C bytes:Nat}{consume:Bool}{s x:O}{s' x':Operand}{ts tx Q:TypeId}{args:Array TypeId}{ops:Array Operand}(ho:o.op = .call ⟨.builtin .append,ops,args⟩)(hops:ops.toList=[s',x'])
  (h0':args[0]?=some ts) (h1':args[1]?=some tx) (he:zS P ts=some Q) (hx:P.underlying tx=some .string\/∃e,P.underlying tx=some (.slice e)) (hs:qZ P Q C=true) (hb:qbE P Q bytes=true) {i:TypeInfo}(hi:P.info? Q=some i) {z:Value}(hz:i.zero=some z) (hzs:z.cells.size=i.size)
  (hc1:qA s' s=true) (hc2:qA x' x=true) (hk:opK orc (.app C bytes consume s x) t h k):Res P σ Z B h w (execOp a.eval o) k:=by
 obtain rfl:ops = #[s',x']:=Ah
 obtain⟨i',hi',hsz⟩:=qla hs;rw[hi]at hi';cases hi';obtain⟨i',hi',hby⟩:=qi2 hb;rw[hi]at hi';cases hi';obtain⟨u,h2,h3⟩:=qR ht hc1 hk;obtain⟨v,h4,h5⟩:=qR ht hc2 h2;obtain⟨n,U,G,h6,h7,h8,h9,h10⟩:=qsD (P:=P) r h5 h4;have hu:=zo he
 have D:∀{r:Value}{w':World},(Builtin.append_ args o.type #[a.eval s',a.eval x']).run P w = .ok r w'->(execOp a.eval o).run P w = .ok (.value r) w':=by
  intro r w' hr;exact Gb
 have hfull:∀w',w'.heap=w.heap->(Builtin.firstCells C n (a.eval x')).run P w' = .ok G.toArray w':=Ah
 -- where there is no room at all
 have fromNone:∀{a0:Option Addr},a.eval s' = .slice a0 0 0->qn (Nat.ble n qe) (qn (Nat.ble (n*bytes) qe) (x6 h (.cells C true true U) (λb J=>k (.own b n) J)))->Res P σ Z B h w (execOp a.eval o) k:=by
  intro a0 es h6;obtain⟨K,Y⟩:=(qc _ _).1 h6;obtain⟨I,N⟩:=(qc _ _).1 Y;rw[qei]at K I;have g1:n<=qe:=of_decide_eq_true K;have g2:n*bytes<=qe:=of_decide_eq_true I;cases n with
  | zero =>
   have hvs:G=[]:=Ad
   have E:=(zD _ _ _).1 N;obtain⟨r2,k2⟩:=r.idle (.cells C true true U);refine⟨_,.slice a0 0 0,_,_,w,E,.inl (D ?_),.own0 _ _ (zzh (Nat.lt_succ_self _) (Nat.le_max_right _ _)),r2,k2⟩;rw[es];exact Bc
  | succ n =>
   obtain⟨d,A,w',g3,g4,g5,gio,g6⟩:=qdp (rt:=o.type) h0' h1' hu hx hi hsz hz (h9 w rfl) (hfull w.drew rfl) (old:=#[]) (a0:=a0) (sLen:=0) (sCap:=0) (qkP _ _ _) Ac Ac (by rw[hby];simpa using g2);have F:(#[]++G.toArray++A:Array Value).toList=G++A.toList:=by simp
   obtain⟨Z',J,g7,g8,g9,g10⟩:=qeb (w1:=w') r (c:=#[]++G.toArray++A) (VRs.pre h7 F) N g5 (hio:=gio);refine⟨_,_,J,Z',w',g7,.inl (D (by rw[es];exact g6)),?_,g8,g9⟩
   have:=VR.own (σ:=σ) h.sz (n+1) d _ g10 Ac (by
    have M:(#[]++G.toArray++A:Array Value).size=(n+1)*C+(d-(0+(n+1)))*C:=by
     rw[Array.size_append,g4,hzs,hsz];simp[h8]
    rw[M];show 0+d*C<=_;rw[<- Nat.add_mul,Nat.zero_add];apply Nat.le_of_eq;congr 1;exact Ac)
   exact Ad
 cases u<;>try exact h6.elim
 .grind[VR.un_nils]
 .rename_i b o' len cap loose;obtain⟨L,c,off,g1,g2,g3⟩:=h3.un_sl;cases loose with
  | true=>exact quw hσ r h3 h0' h1' hu hx hs hi hz hzs hsz hby h7 h8 h9 h10 D h6
  | false =>
  have hcc:c=cap:=Ah
  have H:(Bool.rec (motive:=λ_=>Prop)
    (qn (Nat.ble (len+n) qe) (qn (Nat.ble ((len+n)*bytes) qe)
     (qb4 h b o' (len*C) (λold=>qmt old U (λU=>x6 h (.cells C true true U) (λb' J=>k (.own b' (len+n)) J))))))
    (Nat.rec (motive:=λ_=>Prop) (k (.sl b o' (len+n) cap false) h) (λ_ _=>qq (o'+len*C) (λat_=>stK h b at_ U (λJ=>k (.sl b o' (len+n) cap false) J))) n)
    (Nat.ble (len+n) cap):Prop):=Ad
  clear h6;rw[qff,qei]at H;rcases H with⟨hble,h6⟩|⟨hble,h6⟩
  .-- it does not fit
   have hgr:cap<len+n:=Ad
   obtain⟨K,Y⟩:=(qc _ _).1 h6;obtain⟨I,N⟩:=(qc _ _).1 Y;rw[qei]at K I;have b1:len+n<=qe:=of_decide_eq_true K;have b2:(len+n)*bytes<=qe:=of_decide_eq_true I;obtain⟨ds,us,M,hds,hul,e4⟩:=qe3 r g1 N;rw[wp]at M
   have hold:∀w',w'.heap=w.heap->(Builtin.firstCells C len (.slice (some ⟨L.blk,off,none⟩) len c)).run P w' = .ok us.toArray w':=by
    intro w' hw;refine Gf ?_;refine qcD hul (λj v hj=>?_)
    have hc:∀a,w'.cell? a=w.cell? a:=λa=>Dv
    exact Ah
   obtain⟨d,A,w',e3,e4,e5,eio,e6⟩:=qdp (rt:=o.type) (a0:=some ⟨L.blk,off,none⟩) (sLen:=len) (sCap:=c) h0' h1' hu hx hi hsz hz (h9 w rfl) (hfull w.drew rfl) (old:=us.toArray) (hold w.drew rfl) Ac b1 F8;have F:(us.toArray++G.toArray++A:Array Value).toList=(us++G)++A.toList:=by simp
   obtain⟨Z',J,e7,e8,e9,e10⟩:=qeb (w1:=w') r (c:=us.toArray++G.toArray++A) (VRs.pre (hds.append h7) F) M e5 (hio:=eio);refine⟨_,_,J,Z',w',e7,.inl (D (by rw[g2];exact e6)),?_,e8,e9⟩
   exact VR.own _ _ d _ e10 Ac (by
    have M:(us.toArray++G.toArray++A:Array Value).size=(len*C+n*C)+(d-(len+n))*C:=Gc
    have e2:len+n+(d-(len+n))=d:=Ac
    rw[M,<- Nat.add_mul,<- Nat.add_mul,e2];exact Ad)
  .-- it fits
   have hfit:len+n<=cap:=Ad
   cases n with
   | zero =>
    have H:k (.sl b o' len cap false) h:=h6;refine Res.pure r H (v':=a.eval s') (D ?_) h3;rw[g2];have hvs:G=[]:=by simpa using h8
    have:=jw (rt:=o.type) (a0:=some ⟨L.blk,off,none⟩) (sLen:=len) (sCap:=c) (w':=w) h0' h1' hu hx hs (h9 w rfl) (hfull w rfl) Ac (λa0 ha0=>by subst hvs;rfl) (λhh=>by cases hh)
    exact Ac
   | succ n =>
    have hoff:off=L.off+o':=by rcases g3 with⟨g3,_⟩|⟨_,g3,_⟩<;>omega
    have H:stK h b (o'+len*C) U (λJ=>k (.sl b o' (len+(n+1)) cap false) J):=Ad
    obtain⟨J,w',M,e2,e3,e4⟩:=quc (P:=P) hσ r g1 h7 H;refine⟨_,.slice (some ⟨L.blk,off,none⟩) (len+(n+1)) c,J,Z,w',M,.inl (D ?_),?_,e2,e3⟩
    .rw[g2];refine jw h0' h1' hu hx hs (h9 w rfl) (hfull w rfl) Ac (λa0 ha0=>?_) (λhh=>by cases hh)
     grind[x7]
    .rw[hoff];exact .sl _ _ _ _ _ _ L g1 (.inl hcc)
 .-- a row that stays
  cases n with
  | zero =>
   have H:k (.fz _ _) h:=h6;refine Res.pure r H (v':=a.eval s') (D ?_) h3;have hvs:G=[]:=Ad
   rcases h3.un_fz with⟨k0,off,c,arr,M,e2,_⟩|⟨rfl,_,a0,M⟩
   .rw[M];have:=jw (rt:=o.type) (a0:=some ⟨k0,off,none⟩) (sCap:=c) (w':=w) h0' h1' hu hx hs (h9 w rfl) (hfull w rfl) (by simpa using e2) (λa0 ha0=>by subst hvs;rfl) (λhh=>by cases hh)
    exact Ac
   .rw[M];exact Bc
  | succ n=>exact Ad
 .grind[VR.un_e0]
 .-- a row of one's own
  rename_i b m
  have H:qn (Nat.ble (m+n) qe) (qn (Nat.ble ((m+n)*bytes) qe) (qn consume (qas h b (λe w a R=>qn (qF U) (qn w (qn a (qn (Nat.beq e C) (qio R (λq=>qn (Nat.beq q (m*C)) (qmt R U (λcs' =>
    jG h b .dead (λh1=>x6 h1 (.cells C true true cs') (λb' J=>k (.own b' (m+n)) J))))))))))))):=Ad
  clear h6;obtain⟨K,Y⟩:=(qc _ _).1 H;obtain⟨I,N⟩:=(qc _ _).1 Y;rw[qei]at K I;have b1:m+n<=qe:=of_decide_eq_true K;have b2:(m+n)*bytes<=qe:=of_decide_eq_true I;obtain⟨_,h15⟩:=(qc _ _).1 N;obtain⟨e,wf,af,R,hg,h16⟩:=(zh _ _ _).1 h15;obtain⟨hco,h17⟩:=(qc (qF U) _).1 h16;obtain⟨hwf,h18⟩:=(qc wf _).1 h17;obtain⟨haf,h19⟩:=(qc af _).1 h18;obtain⟨hee,h20⟩:=(qc (Nat.beq e C) _).1 h19;clear N h15 h16 h17 h18 h19;subst hwf haf;have hee:e=C:=Ad
  subst hee;rw[wF]at h20;obtain⟨hm,h20⟩:=(qc _ _).1 h20;have hm:R.length=m*e:=Ad
  rw[wp]at h20;obtain⟨hf,hnew⟩:=(xb _ _ _ _).1 h20;obtain⟨r1,k1⟩:=r.weak hg hf .dead (.inl rfl)
  -- where the row is made W
  have W:∀{us:List Value}{a0:Option Addr}{c:Nat},a.eval s' = .slice a0 m c->c<m+n->VRs σ Z R us->us.length=m*e->
    (∀w',w'.heap=w.heap->(Builtin.firstCells e m (.slice a0 m c)).run P w' = .ok us.toArray w')->Res P σ Z B h w (execOp a.eval o) k:=by
   intro us a0 c ev hlt hds hul hold;obtain⟨d,A,w',e3,e4,e5,eio,e6⟩:=qdp (rt:=o.type) (a0:=a0) (sLen:=m) (sCap:=c) h0' h1' hu hx hi hsz hz (h9 w rfl) (hfull w.drew rfl) (old:=us.toArray) (hold w.drew rfl) hlt b1 F8;have F:(us.toArray++G.toArray++A:Array Value).toList=(us++G)++A.toList:=by simp
   obtain⟨Z',J,e7,e8,e9,e10⟩:=qeb (w1:=w') r1 (c:=us.toArray++G.toArray++A) (VRs.pre (hds.append h7) F) hnew e5 (hio:=eio);refine⟨_,_,J,Z',w',e7,.inl (D (by rw[ev];exact e6)),?_,e8,k1.trans e9⟩
   exact VR.own _ _ d _ e10 Ac (by
    have M:(us.toArray++G.toArray++A:Array Value).size=(m*e+n*e)+(d-(m+n))*e:=Gc
    have e2:m+n+(d-(m+n))=d:=Ac
    rw[M,<- Nat.add_mul,<- Nat.add_mul,e2];exact Ad)
  rcases h3.un_own with⟨rfl,⟨a0,ev⟩,hbn⟩|⟨L,c,g1,g2,g3,ev⟩
  .-- nil
   have hys:R=[]:=Ah
   subst hys;cases n with
   | zero =>
    have hvs:G=[]:=Ad
    have E:=(zD _ _ _).1 hnew;obtain⟨r2,k2⟩:=r1.idle (.cells e true true ([]++U));refine⟨_,.slice a0 0 0,_,_,w,E,.inl (D ?_),.own0 _ _ (zzh (Nat.lt_succ_self _) (Nat.le_max_right _ _)),r2,k1.trans k2⟩;rw[ev];exact Bc
   | succ n=>exact W (us:=[]) ev Ac .nil (by simp) (λw' _=>G7)
  .obtain⟨hLe,cc,cty,cfz,f1,f2,f3,f4,f5⟩:=r.cells b L e true true R g1 hg
   have hrow:∃us,VRs σ Z R us/\us.length=m*e/\(∀j v,us[j]?=some v->w.cell? ⟨L.blk,L.off+0+j,none⟩=some v):=by
    obtain⟨ds,us,M,e2,e3,e4⟩:=qe3 r g1 (off:=0) (n:=m*e) (k:=λl=>l=R) (by
     refine(zh _ _ _).2 ⟨_,_,_,_,hg,(zP _ _ _).2 ⟨zzu _,(zk _ _ _).2 ⟨by simp;exact Ac,?_⟩⟩⟩
     rw[List.drop_zero,zzt Ac])
    exact Ah
   obtain⟨us,e2,e3,e4⟩:=hrow
   by_cases hlt:c<m+n
   .refine W ev hlt e2 e3 (λw' hw=>?_)
    refine Gf ?_;refine qcD e3 (λj v hj=>?_)
    have hc:∀a,w'.cell? a=w.cell? a:=λa=>Dv
    rw[hc];exact Ah
   .-- in place
    rw[hLe]at g3;have hmul:(m+n)*e<=c*e:=Nat.mul_le_mul_right _ Ac;rw[Nat.add_mul]at hmul;have hcl:=h7.length;obtain⟨cc',hspl,hw⟩:=qdu G (L.off+R.length) w cc f1 (by rw[h8];exact Ac);obtain⟨r2,k2⟩:=r.grow g1 hg hf 0 (zzu _) U G h7 (by rw[hcl,h8];exact Ac) .dead true (.inl ⟨rfl,rfl⟩) f1 hspl hw (qeM _ _ _ _)
    have hst:=run_storeCells_cells (P:=P) L.blk (L.off+R.length) G 0 w (λj hj=>by
      rw[qbD f1];exact Ah) (λj hj=>by
      rw[qi9 f1];simp only[decide_eq_false_iff_not];exact f5 (by simp) _ Ac) (qfX hσ h7 hco)
    have E:=(zD _ _ _).1 hnew;refine⟨_,.slice (some ⟨L.blk,L.off,none⟩) (m+n) c,_,_,w.setCells L.blk (L.off+R.length) G,E,.inl (D ?_),?_,r2,k2⟩
    .rw[ev]
     grind[jw,x7]
    .have:=VR.own (σ:=σ) (Z:=Z.add h.sz ⟨L.blk,L.off+0,L.size,e⟩) h.sz (m+n) c ⟨L.blk,L.off+0,L.size,e⟩ (Ren.add_self _ _ _) Ac Ac;exact this
def qBr(hσ:jX σ)(r:Rel σ Z B h w)(ht:TR σ Z t a.tmps){z:Nat}{d s:O}{I J:Operand}{td C:TypeId}{args:Array TypeId}{ops:Array Operand}(ho:o.op = .call ⟨.builtin .copy,ops,args⟩)(G:ops.toList=[I,J])
  (h0:args[0]?=some td) (_h1:(args[1]?).isSome=true) (he:zS P td=some C) (hs:qZ P C z=true) (M:qA I d=true) (N:qA J s=true) (hk:opK orc (.copy z d s) t h k):Res P σ Z B h w (execOp a.eval o) k:=by
 obtain rfl:ops = #[I,J]:=by cases ops;simpa using G
 obtain⟨u,h2,h3⟩:=qR ht M hk;obtain⟨v,Q,h5⟩:=qR ht N h2;have hu:=zo he
 have A:∀{r:Value}{E:World},(Builtin.copy_ args o.type #[a.eval I,a.eval J]).run P w = .ok r E->(execOp a.eval o).run P w = .ok (.value r) E:=by
  intro r E hr;exact Gb
 cases u<;>try exact Q.elim
 .obtain⟨n,cs,K,h6,h7,h8,h9,D⟩:=qsD (P:=P) r h5 (show qbY h z v (λ_ _=>k (.i .i64 0) h)from Q)
  have ed:=h3.un_nils;refine Res.pure r h6 (v':=.int .i64 0) (A ?_) (.i _ _);rw[ed];have H:=D 0 (zzu _) w rfl;simp[Builtin.copy_,h0,qt hu,h9 w rfl,zM hs,goInt]at H ⊢;simp[H]
 .rename_i b o' len cap R;obtain⟨L,c,Y,g1,g2,g3⟩:=h3.un_sl;obtain⟨n,cs,K,h6,h7,h8,h9,D⟩:=qsD (P:=P) r h5 (show qbY h z v (λn new=>qq (min n len) (λm=>qbu (Nat.mul m z) new (λcs=>stK h b o' cs (λh'=>k (.i .i64 (Int.ofNat m)) h'))))from Q)
  have W:=(Iff.of_eq (qy (min n len) _)).1 h6;obtain⟨h11,U⟩:=(zk _ _ _).1 W;have hv:=h7.take (Nat.mul (min n len) z);obtain⟨h',E,e1,e2,e3,e4⟩:=quc (P:=P) hσ r g1 hv U;refine⟨_,.int .i64 ((min n len:Nat):Int),h',Z,E,e1,.inl (A ?_),.i _ _,e2,e3⟩;have H:=D (min n len) (Nat.min_le_left _ _) w rfl
  have F:(storeCells ⟨L.blk,Y,none⟩ (K.take (min n len*z))).run P w = .ok () E:=by
   rcases g3 with⟨rfl,_⟩|⟨g3,_,_⟩
   .exact e4
   .subst g3;have e5:K.take (Nat.mul (min n 0) z)=[]:=by simp
    rw[e5]at e4;have e6:K.take (min n 0*z)=[]:=by simp
    rw[e6];exact e4
  rw[g2];simp[Builtin.copy_,h0,qt hu,h9 w rfl,zM hs,goInt,Nat.min_def]at H ⊢;simp only[Nat.min_def]at F;simp[H,F]
def qxb(N:jX σ)(r:Rel σ Z B h w)(ht:TR σ Z t a.tmps){z:List AV}{x:O}{x':Operand}{td C:TypeId}{args:Array TypeId}{ops:Array Operand}(ho:o.op = .call ⟨.builtin .clear,ops,args⟩)(U:ops.toList=[x'])
  (h0:args[0]?=some td) (he:zS P td=some C) (hz:qah P C z=true) (H:qA x' x=true) (hk:opK orc (.clear z x) t h k):Res P σ Z B h w (execOp a.eval o) k:=by
 obtain rfl:ops = #[x']:=Ah
 obtain⟨i,v,h1,h2,h3,h4⟩:=qdH hz;have R:=qb2 (σ:=σ) (Z:=Z) _ _ h3;obtain⟨u,G,h6⟩:=qR ht H hk;have J:=zo he
 have d:∀{r:Value}{F:World},(Builtin.clear_ args o.type #[a.eval x']).run P w = .ok r F->(execOp a.eval o).run P w = .ok (.value r) F:=by
  intro r F hr;exact Gb
 cases u<;>try exact G.elim
 .refine Res.pure r (v:=.tup []) G (v':=.tuple #[]) (d ?_) (.tup _ _ .nil);rw[h6.un_nils];simp[Builtin.clear_,h0,qt J]
 .rename_i b W len cap I;obtain⟨L,c,K,g1,Y,M⟩:=h6.un_sl;cases len with
  | zero =>
   have A:k (.tup []) h:=G;refine Res.pure r (v:=.tup []) A (v':=.tuple #[]) (d ?_) (.tup _ _ .nil);rw[Y];simp[Builtin.clear_,h0,qt J]
  | succ n =>
   have D:K=L.off+W:=by rcases M with⟨M,_⟩|⟨M,_,_⟩<;>omega
   have A:qkw z (n+1) (λcs=>stK h b W cs (λQ=>k (.tup []) Q)):=G
   rw[qaz]at A;have E:=qni R (n+1) v.cells (.inr rfl);obtain⟨Q,F,e1,e2,e3,e4⟩:=quc (P:=P) N r g1 E A;refine⟨.tup [],.tuple #[],Q,Z,F,e1,.inl (d ?_),.tup _ _ .nil,e2,e3⟩;have hl:=R.length;rw[Y,D]
   have e5:(Builtin.zeroCells v.cells (n+1)).toList=((Array.range ((n+1)*z.length)).map (λi=>v.cells[i % v.cells.size]!)).toList:=by
    simp only[Builtin.zeroCells];rw[show v.cells.size=z.length from Ad]
   rw[<- e5]at e4;simp[Builtin.clear_,h0,qt J,qc3 h1 h2,e4]
def qHH(r:Rel σ Z B h w)(M:TR σ Z t a.tmps){x:O}{y:Operand}{s d e:TypeId}(ho:o.op = .convert s d y)(hc:qA y x=true)(hs:qad P s=true)(hd:zS P d=some e)(he:qq4 P e .u8=true)(N:opK orc (.s2b x) t h k):Res P σ Z B h w (execOp a.eval o) k:=by
 obtain⟨v,K,h2⟩:=qR M hc N;cases v<;>try exact K.elim
 rename_i l;have L:=h2.un_s;have I:=(Iff.of_eq (qy l.length _)).1 K
 let cap:=grownCap w l.length 0 e
 let z:Array Value:=(⟨l.toArray⟩:ByteArray).data.map (λb=>Value.int .u8 b.toNat)++Array.replicate (cap-l.length) (.int .u8 0)
 have C:z.toList=(l.map λc=>Value.int .u8 (c.toNat:Int))++List.replicate (cap-l.length) (.int .u8 0):=by simp[z]
 have D:l.length<=cap:=Nat.le_add_right l.length _;have H:z.size=cap:=by simp[z];exact Ac
 let w1:World:=(w.drew.alloc (.cells z e)).freeze ⟨w.heap.size,z.size,none⟩ 1
 have F:w1.heap=w.heap.push (.cells z e (z.size,z.size+1)):=by
  simp only[w1,World.freeze];rw[if_neg Af];apply Array.ext_getElem?;intro i;rw[Array.getElem?_modify];have G:(w.drew.alloc (Obj.cells z e)).heap=w.heap.push (.cells z e):=rfl;rw[G]
  by_cases hi:i=w.heap.size
  .subst hi;simp
  .rw[if_neg (λh=>hi h.symm),Array.getElem?_push,Array.getElem?_push,if_neg hi,if_neg hi]
 have E:(execOp a.eval o).run P w = .ok (.value (.slice (some ⟨w.heap.size,0,none⟩) l.length cap)) w1:=by
  have J:(w.drew.alloc (Obj.cells z e)).shape? w.heap.size=some (e,z.size):=by
   have G:(w.drew.alloc (Obj.cells z e)).heap=w.heap.push (.cells z e):=rfl;simp[World.shape?,G]
  have Q:(choose (.appendCap l.length 0 e)).run P w = .ok cap w.drew:=by simp[Question.forced];rfl
  simp only[execOp,ho,convert,Sem.run_bind,qt (xZ hs),qt (zo hd),qt (qh5 he),Result.andThen_ok,L,Conv.stringToBytes,qhY,Q,newRow,run_newObj,Sem.run_pure,markStringish,run_shape];have A:({ w.drew with heap:=w.drew.heap.push (Obj.cells z e) }:World).shape? w.drew.heap.size=some (e,z.size):=J;simp only[z,cap]at A ⊢;simp only[A];simp only[run_freeze,Result.andThen_ok];rfl
 obtain⟨Z',h',U,W,Y,R⟩:=qeb (w1:=w1) r (c:=z) (VRs.pre (qqn l) C) I F (λj hj hh=>Ac) (by simp only[w1,World.freeze];rw[if_neg Af];exact⟨rfl,rfl⟩)
 exact⟨_,_,h',Z',w1,U,.inl E,VR.own (σ:=σ) h.sz l.length cap _ R D (by simp[H]),W,Y⟩
omit [Cur] in
def qpZ{v:AV}{z:List AV}{k:List UInt8->Prop}(h:xJ (v::z) k):∃m:Nat,v = .i .u8 (m:Int)/\xJ z (λl=>k (UInt8.ofNat m::l)):=by
 cases v<;>try exact h.elim
 rename_i q n;cases q<;>try exact h.elim
 cases n with
 | ofNat m=>exact⟨m,rfl,h⟩
 | negSucc m=>exact h.elim
omit [Cur] in
def qnw:∀{A:List AV}{C:List Value}(_:VRs σ Z A C) {k:List UInt8->Prop}(_:xJ A k),∃l:List UInt8,k l/\C.length=l.length/\∃z:List Int,C=z.map (Value.int .u8)/\z.map (λn=>UInt8.ofNat n.toNat)=l
 | [],_,.nil,k,d=>⟨[],d,rfl,[],rfl,rfl⟩
 | v::A,_,.cons _ _ v' E G H,k,d=>by
  obtain⟨m,rfl,D⟩:=qpZ d;obtain⟨l,J,K,z,F,I⟩:=qnw H D;have e:=G.un_i;subst e;exact⟨_,J,by simp[K],(m:Int)::z,by simp[F],by simp[I]⟩
def qE0(r:Rel σ Z B h w)(ht:TR σ Z t a.tmps){x:O}{y:Operand}{s d e:TypeId}(ho:o.op = .convert s d y)(hc:qA y x=true)(hd:qad P d=true)(hs:zS P s=some e)(he:qq4 P e .u8=true)(hk:opK orc (.b2s x) t h k):Res P σ Z B h w (execOp a.eval o) k:=by
 obtain⟨v,J,U⟩:=qR ht hc hk
 have E:∀{u:Value},(convert s d (a.eval y)).run P w = .ok u w->(execOp a.eval o).run P w = .ok (.value u) w:=by
  intro u hu;simp[execOp,ho,hu]
 have z:∀{F:Option Addr},a.eval y = .slice F 0 0->k (.s []) h->Res P σ Z B h w (execOp a.eval o) k:=by
  intro F C hk;refine Res.pure r hk (v':=.string ⟨([]:List UInt8).toArray⟩) (E ?_) (.s _);rw[C,run_convert_bytes_string w s d e _ _ _ (zo hs) (qh5 he) (xZ hd)];cases F with
  | none=>simp[Conv.bytesToString];rfl
  | some F =>
   have hl:(loadCells F 0).run P w = .ok (([]:List Int).map (Value.int .u8)).toArray w:=by simpa using qoP (P:=P) w F
   rw[run_bytesToString w _ _ _ [] hl];rfl
 have go:∀{N D len c:Nat}{A:List AV}{M:List Value},a.eval y = .slice (some ⟨N,D,none⟩) len c->VRs σ Z A M->M.length=len->(∀j v,M[j]?=some v->w.cell? ⟨N,D+j,none⟩=some v)->xJ A (λl=>k (.s l) h)->Res P σ Z B h w (execOp a.eval o) k:=by
  intro N D len c A M C Q I W K;obtain⟨l,h7,h8,G,h9,h10⟩:=qnw Q K;refine Res.pure r h7 (E ?_) (.s _)
  have hl:(loadCells ⟨N,D,none⟩ len).run P w = .ok (G.map (Value.int .u8)).toArray w:=by
   rw[<- h9];exact qcD I W
  rw[C,run_convert_bytes_string w s d e _ _ _ (zo hs) (qh5 he) (xZ hd),run_bytesToString w _ _ _ G hl]
  have key:∀(G:List Int) (s:ByteArray),(G.foldl (λr n=>r.push (UInt8.ofNat n.toNat)) s).data.toList=s.data.toList++G.map (λn=>UInt8.ofNat n.toNat):=by
   intro G
   induction G with
   | nil=>intro s;simp
   | cons n G ih=>intro s;rw[List.foldl_cons,ih];simp[ByteArray.push]
  congr 2
  apply ByteArray.ext;apply Array.ext';rw[key,h10];have he0:ByteArray.empty.data = #[]:=rfl;rw[he0];simp
 cases v<;>try exact J.elim
 .exact z U.un_nils J
 .rename_i b o' len cap loose;obtain⟨L,c,D,g1,g2,Y⟩:=U.un_sl;obtain⟨A,M,K,Q,I,W⟩:=qe3 r g1 (show qb4 h b o' len (λA=>xJ A (λl=>k (.s l) h))from J)
  refine go g2 Q I (λj v H=>?_) K
  rcases Y with⟨rfl,_⟩|⟨Y,_,_⟩
  .exact W j v H
  .subst Y;simp at I;subst I;simp at H
 .rename_i n A;obtain⟨q1,q2⟩:=(zk n A _).1 J;rcases U.un_fz with⟨N,D,c,arr,C,e2,e3,e5⟩|⟨rfl,rfl,F,C⟩
  .have hcl:=e5.length;refine go C (e5.take n).vr (by simp at hcl ⊢;exact Ac) (λj v H=>?_) q2
   have hj':j<n:=by
    have:=(zzS.1 H).1;simp at this;exact Ac
   rw[zzq hj',zzq Ac,zzp,Array.getElem?_toList]at H;obtain⟨⟨ty,fz,K⟩,_⟩:=r.frz N arr e3;rw[qbD K];exact H
  .exact z C q2
 .obtain⟨F,C⟩:=U.un_e0;exact z C J
 .rename_i b n;rcases U.un_own with⟨rfl,⟨F,C⟩,_⟩|⟨L,c,g1,g2,Y,C⟩
  .obtain⟨e,wf,af,A,hg,R⟩:=(zh h b (λ_ _ _ A=>qcM 0 A (λl=>qbu 0 l (λA=>xJ A (λl=>k (.s l) h))))).1 J
   obtain⟨_,R⟩:=(zP _ _ _).1 R;obtain⟨_,R⟩:=(zk _ _ _).1 R;exact z C R
  .obtain⟨A,M,K,Q,I,W⟩:=qe3 r g1 (show qb4 h b 0 n (λA=>xJ A (λl=>k (.s l) h))from J)
   exact go C Q I (λj v H=>by simpa using W j v H) K
end ops
end
end
end Go.Kc
