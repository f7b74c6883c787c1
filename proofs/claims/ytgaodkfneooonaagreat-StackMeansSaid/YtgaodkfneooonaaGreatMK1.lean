/- Part 1 of the proof. No condition. -/
import Derived.KernelRfl
import GoSem.Step
import Derived.Laws.IdiomCopy
import Derived.Laws.AppendOwn
import Derived.Laws.Append
import Derived.Calls
import Derived.ChangeKeysEq
import Derived.Laws.Sem
import Derived.Laws.Strings2
import Derived.Laws.StructEq
import Derived.Laws.BytesString
import Derived.MapKept
set_option maxHeartbeats 4000000
set_option maxRecDepth 1000000
set_option linter.defProp false
set_option linter.unusedSectionVars false
set_option linter.unusedSimpArgs false
set_option linter.unusedVariables false
set_option linter.unnecessarySimpa false
namespace Go.Kc
def Sa{p q A:Prop}(f:A)(k:q)(h:A->q->p:=by intro f k;simp +decide only[↓vS,vT,simprocAttr,f];exact k):p:=h f k
def Sb{p q A:Prop}(f:A)(k:q)(h:A->q->p:=by intro f k;simp only[↓vS,vT,simprocAttr,f];exact k):p:=h f k
def Aa{p q:Prop}(k:q)(h:q->p:=by intro k;simp +decide only[↓vS,vT,simprocAttr];exact k):p:=h k
def Ab{p:Prop}(h:p:=by omega):p:=h
def Ac{p q:Prop}(k:q)(h:q->p:=by intro k;simp only[↓vS,vT,simprocAttr];exact k):p:=h k
def Ad{p:Prop}(h:p:=by first|kernel_rfl|(unfold Ck;kernel_rfl)):p:=h
def Ae{p:Prop}(h:p:=by simp_all):p:=h
def Af{p:Prop}(h:p:=by decide):p:=h
def Ag{p:Prop}(h:p:=by grind):p:=h
def Ah{p:Prop}(h:p:=by refine hw2.sc ?_;refine Sa (zzA hl (zzA g0 (zzA g1 s0))) ?_;intro _;refine⟨[0],?_⟩;simp[vw,qa,qp,opM]):p:=h
def Ai{p:Prop}(h:p:=by simp +contextual [qJ]):p:=h
def Aj{p:Prop}(h:p:=by refine Sa (zzA hcd (zzA hq hk)) ?_;simp[vZ,vx,qaX,qaY,qaZ,qa0,hcd,hcl,hq,hq2]):p:=h
def Ak{p q:Prop}(k:q)(h:q->p:=by intro k;simp only[vI,simprocAttr];exact k):p:=h k
def Al{p q:Prop}(k:q)(h:q->p:=by intro k;refine qc.mk hc rfl ?_;exact k):p:=h k
def Am{p:Prop}(h:p:=by simp[qj,qn,zz4]):p:=h
def An{p:Prop}(h:p:=by simp +decide only[↓vS,vT,simprocAttr,hl,g0,g1,↓zk h16,hq,hwq,hp,wt];intro _;refine⟨[0],?_⟩;simp[vw,qa,qp,ww,hp]):p:=h
def Ao{p:Prop}(h:p:=by simp +decide only[↓vS,vT,simprocAttr,hl,g0,g1,↓zk h16,hq,hwq,hp,wf];intro _;refine⟨[0],?_⟩;simp[vw,qa,qp,ww,hp]):p:=h
def Ap{p q:Prop}(k:q)(h:q->p:=by intro k;refine .keep _ _ _ (.keep _ _ _ (.keep _ _ _ (.fz _ _ _ _ (.cut 1 rfl (zzL _) ?_) .nil)));exact k):p:=h k
def Aq{p:Prop}(h:p:=by refine hby.pc ?_;simp +decide only[↓vS,vT,simprocAttr,fnO,g0];refine hr.pc ?_;simp only[Hp.up,Hp.down];refine Sa (zzA hl s0) ?_;intro _;refine⟨[0],?_⟩;simp[vw,qa,qz]):p:=h
def Ar{p:Prop}(h:p:=by unfold qB;rw[hX,e];rfl):p:=h
def As{p:Prop}(h:p:=by simp[execOp,ho,resolve,invoke,builtin,Builtin.len_,hr,qL hu,e',goInt]):p:=h
def At{p:Prop}(h:p:=by
 obtain⟨c,hcl,hcph⟩:=qpI hWW rs.length (λj _ hs=>I.lt j hs)
 have rc:=I.rels c hcl hcph;refine⟨λb L hb=>(jO hb).1,?_,?_,?_,?_,?_,λb L hb hh=>absurd (jO hb).1 (Nat.not_lt_of_le hh),λ_ h=>h,λk arr hk=>⟨(rc.frz k arr hk).1,λb L x _ hx=>by simp at hx⟩,⟨Nat.min_le_right _ _,λb L h=>I.wlt b L (jO h).2⟩⟩
 .intro b L e wf af cs _ hx;simp at hx
 .intro b L es _ hx;simp at hx
 .intro b L e af cs _ hx;simp at hx
 .intro b L es _ hx;simp at hx
 .intro b L e wf cs _ hx;simp at hx):p:=h
def Au{p:Prop}(h:p:=by simp[vL,vw,mkB,mkC,qm,qy qu,qi qu,qy qg,qi qg,qy qd,qi qd]):p:=h
def Av{p:Prop}(h:p:=by unfold zP;rw[hX];rfl):p:=h
def Aw{p q:Prop}(k:q)(h:q->p:=by intro k;simp only[vK,simprocAttr,mkB,mkC,qm,zzC,zzN,qi qu,qi qg,qi qd];exact k):p:=h k
def Ax{p:Prop}(h:p:=by rcases this with rfl|rfl<;>simp[qif,rl]):p:=h
def Ay{p q:Prop}(k:q)(h:q->p:=by intro k;refine S.weak hw (qh ?_);exact k):p:=h k
def Az{p:Prop}(h:p:=by
 induction n with
 | zero=>rfl
 | succ n ih=>rw[List.replicate_succ,List.replicate_succ,List.flatten_cons,ih];rfl):p:=h
def A5{p:Prop}(h:p:=by grind[Tr.get_set]):p:=h
def A6{p:Prop}(h:p:=by grind[List.drop_eq_getElem_cons]):p:=h
def A7{p:Prop}(h:p:=by rcases this with rfl|rfl|rfl|rfl|rfl|rfl|rfl|rfl|rfl|rfl|rfl<;>rfl):p:=h
def A8{p:Prop}(h:p:=by
 rw[hb]at g1';refine⟨_,t1,h1,g1',λQ' hQ=>g2 (λe t h=>X.rec (motive:=λ_=>Prop) (Q' .normal t h) (λid'=>Bool.rec (motive:=λ_=>Prop) (Q' (.exit id') t h) (Q' .normal t h) (Nat.beq id' id)) (Q' .ret t h) e) ?_⟩
 show(Bool.rec (motive:=λ_=>Prop) (Q' (.exit id') t1 h1) (Q' .normal t1 h1) (Nat.beq id' id):Prop)
 rw[hb];exact hQ):p:=h
def A9{p:Prop}(h:p:=by rw[if_pos hpx]at hI;simp only[↓vS,vT,simprocAttr,hpx,vZ,hI]):p:=h
def Ba{p:Prop}(h:p:=by unfold qcQ at hb;cases hb):p:=h
def Bb{p q:Prop}(k:q)(h:q->p:=by intro k;refine qc.mk hc (by simp[qt,clo,qd]) ?_;exact k):p:=h k
def Bc{p:Prop}(h:p:=by
 show(if id2=id' then _ else _)
 have hq':(if id2=id' then Q .normal t1 h1 else Q (.exit id2) t1 h1):=hq
 by_cases he:id2=id'
 .rw[if_pos he]at hq' ⊢;exact⟨_,t1,h1,Z1,rs,.normal,hq',ht1,hs1,hd1,hm,r1,k1⟩
 .rw[if_neg he]at hq' ⊢;exact⟨_,t1,h1,Z1,rs,.exit id2,hq',ht1,hs1,hd1,hm,r1,k1⟩):p:=h
def Bd{p:Prop}(h:p:=by rw[zz2,hx];simp only[Option.toList_some,qK,List.map_append,zz3,List.map_nil];rw[<- qgO];rfl):p:=h
def Be{p:Prop}(h:p:=by simp[zz4]):p:=h
def Bf{p:Prop}(h:p:=by simp only[x9,qct,qcP,zi,evA];rw[show(a==c)=decide (a=c)from by rw[Bool.eq_iff_iff];simp]):p:=h
def Bg{p q:Prop}(k:q)(h:q->p:=by intro k;refine SC.mk hc (qh ?_);exact k):p:=h k
def Bh{p:Prop}(h:p:=by exact wC h0' h1' hu hx hs (h9 w rfl) (hfull w rfl) (zzL _) (λa1 ha1=>by subst hvs;rfl) (λ_=>rfl)):p:=h
def Bi{p:Prop}(h:p:=by
 have hg':=hget _ _ hg hne;obtain⟨h1,c',ty',fz,h2,h3,h4,h5,h6⟩:=r.cells b L e' wf' af' cs' hb hg';refine⟨h1,c',ty',fz,?_,h3,h4,?_,h6⟩
 .rw[hold _ (hwf b L hb _ hg' (by simp))];exact h2
 .intro j v hv;obtain⟨v',h7,h8⟩:=h5 j v hv;exact by grind[VR.mono]):p:=h
def Bj{p:Prop}(h:p:=by obtain⟨e,t1,h1,g5,g6⟩:=ih _ _ _ _ g3;exact⟨e,t1,h1,g5,λQ' hQ=>g2 (λv=>unB v (λb=>Bool.rec (motive:=λ_=>Prop) (fv env ho n y Q' t h) (fv env ho n x Q' t h) b)) (g4 (λb=>Bool.rec (motive:=λ_=>Prop) (fv env ho n y Q' t h) (fv env ho n x Q' t h) b) (g6 _ hQ))⟩):p:=h
def Bk{p:Prop}(h:p:=by
 refine .own 0 _ 4 true _ _ ?_ (λh0=>?_) (Frzs.self zt)
 .simp[qam,Hp.push,shb,H0,zz4,xw zt]
 .rw[List.eq_nil_of_length_eq_zero h0];rfl):p:=h
def Bl{p q:Prop}(k:q)(h:q->p:=by intro k;refine Upd.mkd hc (by simp[jF,bnd,mkB]) (by simp) ?_;exact k):p:=h k
def Bm{p:Prop}(h:p:=by
 obtain⟨l0,h0,m0,mR,q1,q2,q3,q4,q5,q6⟩:=wX (P:=P) hl hhi hm (zzL 0) h7' true w;have hz:l0=0/\h0=0/\mR=0:=by rcases q6 with⟨_,_,_⟩|⟨_,_⟩<;>omega
 obtain⟨rfl,rfl,rfl⟩:=hz;refine Res.pure r q1 (hcall e1 q2) ?_;exact .own0 _ _ hb):p:=h
def Bn{p q:Prop}(k:q)(h:q->p:=by intro k;simp +decide only[↓vS,vT,simprocAttr,hlt,zzU,xl,hx,zza,hw,hr1,hr2,hln,htk,hap];exact k):p:=h k
def Bo{p:Prop}(h:p:=by
 refine Sa h ?_;refine hg.sc ?_;refine Sa (zzA h (zzA r1 (zzA r2 r3))) ?_
 simp_all[zz4]):p:=h
def Bp{p:Prop}(h:p:=by simp only[Ren.iced];rw[if_neg hb];exact h):p:=h
def Bq{p:Prop}(h:p:=by exact⟨_,t1,h1,Z1,rs,.ret,hq,ht1,hs1,hd1,hm,r1,k1⟩):p:=h
def Br{p:Prop}(h:p:=by refine⟨[0],?_⟩;simp[vw,qa,qp,opM,hp]):p:=h
def Bt{p:Prop}(h:p:=by exact Iff.rfl):p:=h
def Bu{p:Prop}(h:p:=by rw[zz4,if_pos rfl]):p:=h
def Bv{p:Prop}(h:p:=by
 by_cases hji:j=i
 .subst hji;exact⟨λh=>absurd h hS,λh=>absurd h (Nat.lt_irrefl _)⟩
 .obtain⟨q,hq,hwq⟩:=hj;exact hW hnp j q hq hwq hji (λh=>by have:=(qmc h.2).1;rw[hwr]at this;cases this)):p:=h
def Bw{p:Prop}(h:p:=by rw[zz2,hx];simp only[Option.toList_some,qG,List.map_append,zz3,List.map_nil];rw[<- qgO];rfl):p:=h
def By{p q:Prop}(k:q)(h:q->p:=by intro k;simp only[qr,qm,vI,simprocAttr];exact k):p:=h k
def Bz{p q:Prop}(k:q)(h:q->p:=by intro k;refine qc.mk hc (by simp[qt,clo,zp]) ?_;exact k):p:=h k
def B1{p:Prop}(h:p:=by
 have:(args++Array.replicate (fn.ntmps-args.size) undef).getD j undef=v':=by
  rw[Array.getD_eq_getD_getElem?,Array.getElem?_append_left hn];rw[Array.getElem?_toList]at h4;rw[h4];rfl
 rw[this];exact h5):p:=h
def B3{p:Prop}(h:p:=by
 rw[jq]at hg;obtain⟨b,q1,q2⟩:=hget b' x' hg;have:rl src h.sz b'=b:=by simp[rl,zzs,q1]
 rw[this];exact q2):p:=h
def B4{p:Prop}(h:p:=by simp[vw,wI,wkB,wTr,wT,qfR,qkP,qo,qF,qN,qA,qa,qD,qb5,qcv,qaI,wg,xO,qpM,qpN]):p:=h
def B5{p q:Prop}(k:q)(h:q->p:=by intro k;refine qX ?_;simp +decide only[↓vS,vT,simprocAttr,h0,h1,h2,n0,n1,n2,n2b,nb,nb4,ns4,qm];refine h.pc ?_;simp only[Hp.up,Hp.down];simp +decide only[↓vS,vT,simprocAttr,h0,h1,h2,n0,n1,n2,hb,hr1,hr2,hlp,hap,zzU,nb,nb1,nb4,n2b,n21,ns4,ns0,ns2];exact k):p:=h k
def B6{p:Prop}(h:p:=by grind[qC]):p:=h
def B7{p:Prop}(h:p:=by exact⟨_,t1,h1,g1,λQ' hQ=>g2 (λe t h=>X.rec (motive:=λ_=>Prop) (Q' .normal t h) (λid'=>Bool.rec (motive:=λ_=>Prop) (Q' (.exit id') t h) (Q' .normal t h) (Nat.beq id' id)) (Q' .ret t h) e) hQ⟩):p:=h
def B8{p:Prop}(h:p:=by rcases this with rfl|rfl<;>rfl):p:=h
def B9{p:Prop}(h:p:=by
 refine h.sc ?_;cases hcn:qM n with
 | none =>
  simp +decide only[↓vS,vT,simprocAttr,xj,zE];simp[vZ,ql,zI,hcn]
 | some x =>
  simp +decide only[↓vS,vT,simprocAttr,xj,wR];simp[vZ,ql,zI,hcn]):p:=h
def Ca{p:Prop}(h:p:=by rw[jG (hn b L h)];exact h'):p:=h
def Cb{p:Prop}(h:p:=by simp[clo]at hc):p:=h
def Cc{p:Prop}(h:p:=by
 induction m using Nat.strongRecOn with
 | ind m ih =>
  intro a ha hi;exact qbj (step a hi (λt h=>SL P n x Q t h) λb hb hlt t' h' hw=>SL.weak hw (ih (μ b) (ha ▸ hlt) b rfl hb))):p:=h
def Cd{p:Prop}(h:p:=by simp[vw,mkB,mkC,qm,qa,qu,qg,qd]):p:=h
def Ce{p q:Prop}(k:q)(h:q->p:=by intro k;refine qc.mk hc (by simp[qt,clo,qo]) ?_;exact k):p:=h k
def Cf{p:Prop}(h:p:=by
 refine hQ _ _ (Wk.mk _ _ [0,1] ?_ ?_ ?_ rfl)
 .simp[vw]
 .simp[vw,qm,qq,qa,qd,qg]
 .simp):p:=h
def Cg{p:Prop}(h:p:=by
 obtain⟨n,new,h3,_⟩:=qih h esz u (λn new=>qv (Nat.ble n qe) (qv (Nat.ble (Nat.mul n bytes) qe) (vg h (.cells esz true true new) (λb h'=>K (.own b n) h')))) h2
 grind[qf,xJ]):p:=h
def Ch{p:Prop}(h:p:=by unfold ql;cases qM i.code<;>exact⟨rfl,rfl,rfl⟩):p:=h
def Ci{p:Prop}(h:p:=by refine⟨[0],?_⟩;simp[vw,qa,qz]):p:=h
def Cj{p:Prop}(h:p:=by subst n2;rw[hb]at hb2;cases hb2;exact absurd he2.symm (hother b1 L1 _ hb1 hg1' (by simp) n1)):p:=h
def Cl{p:Prop}(h:p:=by
 rw[qut]
 by_cases h:m % 2=0<;>simp only[h,decide_true,decide_false,if_true,if_false]<;>rfl):p:=h
def Cm{p:Prop}(h:p:=by refine .keep _ _ _ (.keep _ _ _ (.fz _ _ _ _ (.cut 1 rfl (zzL _) ?_) .nil));simp[vw,trP,rI]):p:=h
def Cn{p:Prop}(h:p:=by grind[Kept.pres,Rel.base]):p:=h
def Co{p:Prop}(h:p:=by rw[hv x (by simp[qJ])]):p:=h
def Cp{p:Prop}(h:p:=by simp[Kc.flat]at hc):p:=h
def Cq{p q:Prop}(k:q)(h:q->p:=by intro k;refine Upd.mk hc (by simp[jF,bnd,qD]) (by simp) ?_;exact k):p:=h k
def Cr{p:Prop}(h:p:=by exact L3.b2 (qb1 _ _ _ _ _) λ_ _ _=>L2.ret _ _):p:=h
def Cs{p:Prop}(h:p:=by grind[VR.mono]):p:=h
def Ct{p:Prop}(h:p:=by
 rw[zzO]at hx;rcases hx with hx|hx
 .exact .inl (qdx hx)
 .obtain⟨e,hx⟩:=zzx.1 hx;exact .inr ⟨e,jd hx⟩):p:=h
def Cu{p:Prop}(h:p:=by simp only[↓vS,vT,simprocAttr,vZ]):p:=h
def Cv{p q:Prop}(k:q)(h:q->p:=by intro k;refine qc.mk hc (by simp[qt,clo,ha,hc']) ?_;exact k):p:=h k
def Cw{p:Prop}(h:p:=by simp at hg;subst hg;exact qiE hG zF rfl hB _ _ qk3 hG' hk'):p:=h
def Cx{p:Prop}(h:p:=by have hg':=hget _ _ hg hne;obtain⟨h0,ob,h2,h3⟩:=r.maps b L es hb hg';refine⟨h0,ob,?_,h3.mono hle⟩;rw[hold _ (hwf b L hb _ hg' (by simp))];exact h2):p:=h
def Cy{p:Prop}(h:p:=by subst this;rcases hy with⟨hy,_⟩|⟨hy,_⟩<;>cases hy):p:=h
def Cz{p:Prop}(h:p:=by exact⟨_,t1,h1,Z1,rs,.exit id,hq,ht1,hs1,hd1,hm,r1,k1⟩):p:=h
def C0{p:Prop}(h:p:=by simp only[if_neg hi];exact hk _ _ (.inr ⟨rfl,rfl⟩) hf):p:=h
def C1{p:Prop}(h:p:=by
 by_cases hx:j<i/\exc rs[j] r=true
 .exact hx.1
 .exact (hWx hwr j _ hq (h2 _ hq) hji hx).1 h1):p:=h
def C2{p q:Prop}(k:q)(h:q->p:=by
 intro k
 show(if b<at'.length then Z (gAt at' h.sz b)else none)=some L
 rw[if_pos (by rw[l.len];exact hbm)]
 exact k):p:=h k
def C3{p:Prop}(h:p:=by exact fin l2 q1 q2 _ (λ_ _ h=>h) hw2):p:=h
def C4{p:Prop}(h:p:=by simp +decide only[↓vS,vT,simprocAttr,hl,g0,g1,↓zW h32,hr];refine hsh.sc ?_;refine Sa (zzA hl s0) ?_;intro _;refine⟨[0],?_⟩;simp[vw,qa,qp,opM]):p:=h
def C5{p:Prop}(h:p:=by simp[vL,vw,qy qz,qi qz]):p:=h
def C6{p:Prop}(h:p:=by simp[binOp,Op.stringOp,tl]):p:=h
def C7{p:Prop}(h:p:=by rw[e1];simp[Builtin.lenOf]):p:=h
def C8{p:Prop}(h:p:=by
 simp only[execOp,ho,Instr.sliceAt,Sem.run_bind,qL hu,Result.andThen_ok,Instr.slice,ev,g2,xy h2,Sem.run_pure]
 congr 3
 cases a0<;>grind):p:=h
def C9{p:Prop}(h:p:=by refine .tup _ _ (.cons _ _ _ _ (.agg _ _ (.cons _ _ _ _ (.i _ _) (.cons _ _ _ _ .nilz (.cons _ _ _ _ (.i _ _) .nil)))) (.cons _ _ _ _ (.b _) .nil))):p:=h
def Da{p:Prop}(h:p:=by
 have e1:=qdk (x:=x) (h.sub λn hn=>by simp[qgG,hn])
 have e2:=qee (xs:=args) (h.sub λn hn=>by simp[qgG,hn])
 funext hh k;simp only[qdB,e1,e2]):p:=h
def Db{p:Prop}(h:p:=by exact⟨_,t1,h1,g1,λQ' hQ=>g2 (λe t h=>X.rec (motive:=λ_=>Prop) (fv env ho n (.loop x) Q' t h) (λid=>Q' (.exit id) t h) (Q' .ret t h) e) hQ⟩):p:=h
def Dc{p:Prop}(h:p:=by exact .tup _ _ (.cons _ _ _ _ (.agg _ _ (.cons _ _ _ _ (.i _ _) (.cons _ _ _ _ .nilz (.cons _ _ _ _ (.i _ _) .nil)))) (.cons _ _ _ _ (.b _) .nil))):p:=h
def Dd{p:Prop}(h:p:=by simp[vw,qm,qd,qg]):p:=h
def De{p:Prop}(h:p:=by grind[Rel.exclm]):p:=h
def Df{p:Prop}(h:p:=by simp +decide only[↓vS,vT,simprocAttr,xj,zE];simp[vZ]):p:=h
def Dg{p:Prop}(h:p:=by rw[<- (zzS.1 hx).2,List.getElem_cons_drop]):p:=h
def Dh{p:Prop}(h:p:=by rw[<- (zzS.1 hr).2,List.getElem_cons_drop]):p:=h
def Di{p:Prop}(h:p:=by refine Sa (zzA h1 (zzA ha hb)) ?_;simp[vZ,vP,zz4,rNt]):p:=h
def Dj{p q:Prop}(k:q)(h:q->p:=by intro k;refine .keep _ _ _ (.keep _ _ _ (.fz _ _ _ _ .nilz (.fz _ _ _ _ (.cut 1 rfl (zzL _) ?_) .nil)));exact k):p:=h k
def Dk{p:Prop}(h:p:=by refine⟨[0],?_⟩;simp[vw,qa,qz,e]):p:=h
def Dl{p:Prop}(h:p:=by exact⟨_,t1,h1,g1,λQ' hQ=>g2 (λe t h=>X.rec (motive:=λ_=>Prop) (fv env ho n y Q' t h) (λid=>Q' (.exit id) t h) (Q' .ret t h) e) hQ⟩):p:=h
def Dm{p:Prop}(h:p:=by simpa using hx):p:=h
def Dn{p:Prop}(h:p:=by grind[Rel.excl]):p:=h
def Do{p:Prop}(h:p:=by
 have e:=qee (xs:=args) h;funext hh k;show qaq t' args (λvs=>C (Nat.succ f) vs hh k)=qaq t args (λvs=>C (Nat.succ f) vs hh k)
 rw[e]):p:=h
def Dp{p:Prop}(h:p:=by rcases hc with rfl|rfl|rfl|rfl<;>decide):p:=h
def Dq{p:Prop}(h:p:=by rw[List.eq_nil_of_length_eq_zero h0];rfl):p:=h
def Dr{p q:Prop}(k:q)(h:q->p:=by intro k;simp only[↓vS,vT,simprocAttr,hlt,hb,he,hw];exact k):p:=h k
def Ds{p:Prop}(h:p:=by simp only[x9,x4,qf,qjg,zi,decide_true,true_and,evA];rw[show(n==m)=decide (n=m)from by rw[Bool.eq_iff_iff];simp]):p:=h
def Dt{p:Prop}(h:p:=by simp;exact .nil):p:=h
def Du{p:Prop}(h:p:=by exact⟨_,_,h,.i _ _,by simp[binOp,Op.intBits]⟩):p:=h
def Dv{p:Prop}(h:p:=by refine Sa (zzA h1 h2) ?_;simp[vZ]):p:=h
def Dw{p:Prop}(h:p:=by simp[vw,qa,ha,hc']):p:=h
def Dx{p:Prop}(h:p:=by exact L2.br _ (L2.ret _ _) L2.no):p:=h
def Dy{p:Prop}(h:p:=by simp[binOp,Op.intCmp]):p:=h
def Dz{p:Prop}(h:p:=by have:=(zzS.1 hj).1;simp at this;exact this):p:=h
def D0{p:Prop}(h:p:=by simp[zz4];exact⟨rfl,rfl,rfl⟩):p:=h
def D1{p:Prop}(h:p:=by simp[vw,qm,qq,qa,qd,qg]):p:=h
def D2{p:Prop}(h:p:=by exact L1.b2 (qH t x) λx=>L1.b2 (qH t y) λy=>L2.b2 (qlT x) λq n=>L2.b2 (qlT y) λ_ m=>L2.br _ (L2.ret _ _) (L2.ret _ _)):p:=h
def D3{p q:Prop}(k:q)(h:q->p:=by intro k;refine Sb hlt ?_;refine qX ?_;exact k):p:=h k
def D4{p q:Prop}(k:q)(h:q->p:=by intro k;simp only[vK,simprocAttr,qi qz];exact k):p:=h k
def D5{p:Prop}(h:p:=by simpa[clo]using hc):p:=h
def D6{p:Prop}(h:p:=by refine⟨[0],?_⟩;simp[vw,qa,qp,e,hn,hb',hcx]):p:=h
def D7{p:Prop}(h:p:=by split at hm2<;>simp at hm2<;>omega):p:=h
def D8{p:Prop}(h:p:=by grind[Rel.frz]):p:=h
def D9{p q:Prop}(k:q)(h:q->p:=by intro k;simp +decide only[↓vS,vT,simprocAttr,hlt,zzU,xl,hx,zza,hcv,hw,hr1,hr2,hln,htk,hap];exact k):p:=h k
def Ea{p:Prop}(h:p:=by simp[qt,clo]):p:=h
def Eb{p:Prop}(h:p:=by
 rw[zz2,hx,List.map_append,List.filter_append,hA]
 by_cases h:xA .u64 s qx[j].2=0<;>simp[h]):p:=h
def Ec{p:Prop}(h:p:=by
 rcases hren b L hb with⟨rfl,_⟩|⟨_,hb⟩
 .exact Nat.lt_succ_self _
 .exact Nat.lt_succ_of_lt (r.dom b L hb)):p:=h
def Ed{p:Prop}(h:p:=by simp only[↓vS,vT,simprocAttr,h1,h2,h3,h4,hr1,hr2,hok,zzU,Nat.zero_mul];intro _;refine⟨[1],?_⟩;simp[vw,qa,hcl]):p:=h
def Ee{p:Prop}(h:p:=by exact L3.b2 (qb1 _ _ _ _ _) λl h' m=>L1.b2 (zy _) λo'=>L1.b2 (zy _) λlen'=>L1.b2 (zy _) λcap'=>qxz _ _ _ _ _ _):p:=h
def Ef{p:Prop}(h:p:=by rw[hb];simp):p:=h
def Eg{p:Prop}(h:p:=by simpa using h7.append ((by simpa using h6:VRs σ Z vs (args.map a.eval).toList).append h8)):p:=h
def Eh{p q:Prop}(k:q)(h:q->p:=by intro k;simp +decide only[↓vS,vT,simprocAttr,↓zW h40,ht,hm,hb];exact k):p:=h k
def Ei{p:Prop}(h:p:=by rcases hcd with h|h|h|h<;>omega):p:=h
def Ej{p q:Prop}(k:q)(h:q->p:=by intro k;simp[IntKind.wrap,IntKind.bits,IntKind.signed];exact k):p:=h k
def Ek{p q:Prop}(k:q)(h:q->p:=by intro k;refine Sb (zzA m1 m2) ?_;exact k):p:=h k
def El{p q:Prop}(k:q)(h:q->p:=by intro k;simp only[zw,zY,qI];exact k):p:=h k
def Em{p q:Prop}(k:q)(h:q->p:=by intro k;simp +decide only[↓vS,vT,simprocAttr,hlt,zzU,vt,hb,zza];exact k):p:=h k
def En{p:Prop}(h:p:=by grind[qbY.mono]):p:=h
def Eo{p:Prop}(h:p:=by
 induction zy generalizing vs with
 | nil=>cases hf;rfl
 | cons a zy ih=>cases hf<;>grind):p:=h
def Ep{p:Prop}(h:p:=by obtain⟨vs,h3,h4⟩:=qnv t' h' res _ h1;exact⟨_,_,h3,λk' hk'=>back k' (h4 (λvs=>k' (qaD vs) h') hk')⟩):p:=h
def Eq{p:Prop}(h:p:=by grind[jJ]):p:=h
def Er{p:Prop}(h:p:=by
 induction zy generalizing vs with
 | nil=>cases h;rfl
 | cons a zy ih=>cases h<;>grind):p:=h
def Es{p:Prop}(h:p:=by rw[qgF];exact h):p:=h
def Et{p:Prop}(h:p:=by unfold hiM;split<;>omega):p:=h
def Eu{p:Prop}(h:p:=by rw[zz4,if_pos rfl];rfl):p:=h
def Ew{p q:Prop}(k:q)(h:q->p:=by intro k;simp +decide only[↓vS,vT,simprocAttr,hr1,hr2,hll,hap,he,hl20,ho,ht,zzU,hlt,g0];refine hgc.sc ?_;refine Sa (zzA he2 (zzA c4 (zzA w2 w3))) ?_;exact k):p:=h k
def Ex{p:Prop}(h:p:=by simpa using h1):p:=h
def Ey{p:Prop}(h:p:=by rcases g6 with⟨_,_,_⟩|⟨_,_⟩<;>omega):p:=h
def Ez{p:Prop}(h:p:=by simp +decide only[↓vS,vT,simprocAttr,hn2,m1,m2,m3,m4,m5,m6,m7,m8,m9,h4,hjt,hj1,hjf,hj2];simp[vZ,h4,hh]):p:=h
def E0{p:Prop}(h:p:=by rw[hio];rcases hload with rfl|⟨n,rfl⟩<;>rfl):p:=h
def E1{p q:Prop}(k:q)(h:q->p:=by intro k;refine Sa (zzA e (zzA hn (zzA hb' hl))) ?_;refine qX ?_;exact k):p:=h k
def E2{p:Prop}(h:p:=by rcases i4 with⟨_,_,_,_,_,_,_,q,_⟩|⟨_,_,q,_⟩<;>exact⟨_,q,by simp⟩):p:=h
def E3{p:Prop}(h:p:=by simp[mkT,zz4]):p:=h
def E4{p:Prop}(h:p:=by simp[qdR,hz]):p:=h
def E5{p:Prop}(h:p:=by
 refine L1.b2 (qH t x) λg=>L1.b2 (qjh t args) λvs=>?_
 cases g<;>first|exact L2.no|exact hi _ _ _):p:=h
def E6{p:Prop}(h:p:=by rw[qjD hm];exact h):p:=h
def E7{p:Prop}(h:p:=by refine .cons (.inr (.inr (.inr ⟨.inr (.inr (.inr rfl)),?_,?_,?_,?_⟩))) .nil<;>simp only<;>omega):p:=h
def E8{p q:Prop}(k:q)(h:q->p:=by intro k;refine Sa (zzA n1 n2) ?_;refine(h2 p.spaces hR.spaces.1 hR.spaces.2).sc ?_;exact k):p:=h k
def E9{p:Prop}(h:p:=by simp[World.cell?,hw]):p:=h
def Fa{p q:Prop}(k:q)(h:q->p:=by intro k;show(0*esz<=cs.length/\(c-0)*esz<=(cs.drop (0*esz)).length/\_)↔_;simp only[Nat.zero_mul,zzu,Nat.sub_zero,List.drop_zero,h3,true_and];exact k):p:=h k
def Fb{p:Prop}(h:p:=by rw[e];rfl):p:=h
def Fc{p:Prop}(h:p:=by
 rcases h3 with e|e|e|e|e|e <;>
 .refine Sa e ?_;refine qX ?_;refine Sa e ?_;simp[vZ,xr,qmy,e]):p:=h
def Fd{p:Prop}(h:p:=by
 rw[<- hE];refine qoD (br:=br) (by simp[spT,mkT,zz4]) ?_ ?_ rfl
 all_goals grind[Tr.get_set]):p:=h
def Fe{p q:Prop}(k:q)(h:q->p:=by intro k;simp only[vI,simprocAttr,qm];exact k):p:=h k
def Ff{p q:Prop}(k:q)(h:q->p:=by intro k;refine S.has _ ht (qh ?_);exact k):p:=h k
def Fg{p:Prop}(h:p:=by simp[vZ,vP,zz4]):p:=h
def Fh{p:Prop}(h:p:=by exact r.app b L e' wf' cs' hb1 (hget _ _ hg hne) b' L' e2 wf2 af2 cs2 hb' (hget _ _ hx hne') he):p:=h
def Fi{p:Prop}(h:p:=by simp only[x9,x4,qf,qdQ,zi,decide_true,true_and,evA];rw[<- decide_not];simp):p:=h
def Fj{p:Prop}(h:p:=by simp[vw,qm,qa,qd,qg,kh]):p:=h
def Fk{p:Prop}(h:p:=by
 simp only[kdS]at hb
 repeat' split at hb
 all_goals first|(cases hb;done)|exact hb):p:=h
def Fl{p q:Prop}(k:q)(h:q->p:=by intro k;simp +decide only[↓vS,vT,simprocAttr,hlt',hlt,h5,hel,cNd,hl,hw1,n1,n2,n3,n4,n5,m1,m2,m3,gbp',gb',gc0,hwl,zzU,hll,hp1,hll2,hp2];exact k):p:=h k
def Fm{p:Prop}(h:p:=by
 have hw:qad l=false:=by simp[qad,m2,hne]
 refine Sb (zzA m1 (zzA m2 m3)) ?_;simp[vZ,hw]):p:=h
def Fn{p:Prop}(h:p:=by grind[qao]):p:=h
def Fo{p:Prop}(h:p:=by
 simp only[fzv];split
 .simp;exact .fz0 _
 .exact .own0 _ _ hb):p:=h
def Fp{p:Prop}(h:p:=by simp only[hlt,decide_false]at h8;exact Res.pure r h8 (by rw[hrun,if_neg hlt]) (.i _ _)):p:=h
def Fq{p:Prop}(h:p:=by
 refine ih2 _ _ (Wk.mk _ _ [] ?_ ?_ ?_ rfl)
 .simp[vw];rfl
 .trivial
 .simp):p:=h
def Fs{p:Prop}(h:p:=by simp only[hlt,decide_true]at h8;exact Res.pure r h8 (by rw[hrun,if_pos hlt]) (.i _ _)):p:=h
def Ft{p:Prop}(h:p:=by refine Sb hlt ?_;simp[vZ,hI]):p:=h
def Fu{p:Prop}(h:p:=by rw[if_pos (.inl hm)];simp +decide only[↓vS,vT,simprocAttr,↓zW h40,ht,hm];simp[vZ]):p:=h
def Fv{p:Prop}(h:p:=by refine Sa (zzA hl (zzA sc hle)) ?_;intro _;refine⟨[0],?_⟩;simp[vw,qa,qz,e,hn,hb']):p:=h
def Fw{p:Prop}(h:p:=by
 refine ih2 _ _ (Wk.mk _ _ [] ?_ ?_ ?_ rfl)
 .simp[vw,qd]
 .trivial
 .simp):p:=h
def Fx{p:Prop}(h:p:=by rw[r1];simp):p:=h
def Fy{p:Prop}(h:p:=by rw[e]at hp;have hF:=(Kd.lab.inj (hpc.symm.trans hp)).1;exact⟨true,by rw[e,qU,hF]⟩):p:=h
def F0{p:Prop}(h:p:=by
 refine ih2 _ _ (Wk.mk _ _ [] ?_ ?_ ?_ rfl)
 .simp[vw,jh]
 .trivial
 .simp):p:=h
def F1{p:Prop}(h:p:=by simp[clo]at h):p:=h
def F2{p:Prop}(h:p:=by rw[<- l.len];exact hi):p:=h
def F3{p:Prop}(h:p:=by rename_i cx;exact qoz (hv nt cx (by simpa[zc]using hc) hn ro hro Z B w a ht hsz r)):p:=h
def F4{p:Prop}(h:p:=by simp[vw,qa,qA,qN]):p:=h
def F5{p:Prop}(h:p:=by unfold ql;rw[hcm];rfl):p:=h
def F6{p:Prop}(h:p:=by refine⟨[0],?_⟩;simp[vw,qa,qp]):p:=h
def F7{p:Prop}(h:p:=by simp[vZ,vP,zz4,qP qd,trP];intro h0;rw[h0];rfl):p:=h
def F8{p:Prop}(h:p:=by
 obtain⟨y,hy,rfl⟩:=zzl.1 hxm
 grind[qoT,PrgGood.ins]):p:=h
def F9{p:Prop}(h:p:=by refine skip hs _ ?_;simp[qj,qn,zz4,gdL,hm,hs]):p:=h
def Ga{p:Prop}(h:p:=by split<;>omega):p:=h
def Gb{p:Prop}(h:p:=by simp[execOp,hoo,resolve,h8,Deferred.ofValue,invoke,q1]):p:=h
def Gc{p:Prop}(h:p:=by grind[CRs.vr]):p:=h
def Gd{p:Prop}(h:p:=by simp only[zzc,List.not_mem_nil,or_false]at hs;subst hs;rfl):p:=h
def Ge{p:Prop}(h:p:=by rw[hk]at hpure;simp[qcq]at hpure):p:=h
def Gf{p:Prop}(h:p:=by simp_all[zz4]):p:=h
def Gg{p:Prop}(h:p:=by simp[Ren.iced,hz]):p:=h
def Gh{p:Prop}(h:p:=by rw[hold _ (hother b' L' _ hb' hg2 (by simp) hne)];exact h7):p:=h
def Gi{p:Prop}(h:p:=by simpa using h2):p:=h
def Gj{p:Prop}(h:p:=by
 by_cases e:b=2
 .subst e;simp at hb
 .rw[if_neg e]at hb ⊢;exact hb):p:=h
def Gk{p:Prop}(h:p:=by rw[qfn,hs];simp_all[vp,wB]):p:=h
def Gl{p:Prop}(h:p:=by obtain⟨h,hy⟩:=hne h;exact⟨_,_,h,.i _ _,by simp[binOp,Op.intDiv,hy]⟩):p:=h
def Gm{p:Prop}(h:p:=by rename_i e;rw[hio]at e;cases e;rw[hio];rfl):p:=h
def Gn{p:Prop}(h:p:=by
 rcases qew hk with hk|⟨hk,_⟩
 all_goals grind[Rel.frz]):p:=h
def Gp{p:Prop}(h:p:=by simp only[↓vS,vT,simprocAttr,if_true];intro _;refine⟨[1],?_⟩;simp[vw]):p:=h
def Gq{p:Prop}(h:p:=by refine Sa (zzA h1 (zzA ha (zzA hb (zzA he' he)))) ?_;simp[vZ,vP,zz4,rNt,he]):p:=h
def Gr{p:Prop}(h:p:=by unfold ql at hcls;cases hcm:qM i.code<;>grind[wY,qsI]):p:=h
def Gs{p:Prop}(h:p:=by simp[qgb]at hh):p:=h
def Gt{p:Prop}(h:p:=by simp[qev]at hc):p:=h
def Gu{p:Prop}(h:p:=by simp only[↓vS,vT,simprocAttr,hp,hw2,hpl,hy,zzU,xl,zza,hlt2];simp[vZ,hwf]):p:=h
def Gv{p:Prop}(h:p:=by rw[Array.size_append,e4,hzs,hsz];simp[h8,hul]):p:=h
def Gw{p:Prop}(h:p:=by simpa using h):p:=h
def Gx{p:Prop}(h:p:=by simp[vZ,vP,zz4,qP qF];intro h0;rw[h0];rfl):p:=h
def Gy{p:Prop}(h:p:=by have e:=ne (c:=c) (by rw[hc];simp);rw[qk e,zz4,if_neg e];exact h.box c hc):p:=h
def Gz{p:Prop}(h:p:=by rw[List.mem_zipIdx_iff_getElem?,zzq hij];exact hri):p:=h
def G0{p:Prop}(h:p:=by subst h h';exact .clo _ rfl):p:=h
def G1{p:Prop}(h:p:=by simp[qfL]):p:=h
def G3{p:Prop}(h:p:=by simp at h):p:=h
def G4{p:Prop}(h:p:=by rw[r3];simp):p:=h
def G5{p:Prop}(h:p:=by rw[r2];simp):p:=h
def G6{p:Prop}(h:p:=by have e:=ne (c:=c) (by rw[hc];simp);rw[qk e,zz4,if_neg e];exact h.fr c hc):p:=h
def G7{p:Prop}(h:p:=by refine Sa (zzA h1 (zzA h2 (zzA @Int.ofNat_lt h3))) ?_;simp[vZ,qP (qo _)]):p:=h
def G8{p:Prop}(h:p:=by simp only[clo]at hh;simp only[rnv,h1 hh]):p:=h
def G9{p:Prop}(h:p:=by simp only[clo]at hh;simp only[bnd,h1 hh]):p:=h
def Ha{p:Prop}(h:p:=by simp only[clo]at hh;simp only[fzv,h1 hh]):p:=h
def Hb{p q:Prop}(k:q)(h:q->p:=by intro k;refine⟨[0,1,2],?_⟩;simp[vw,mkB,mkC,qm,qa,qu,qg,qd,xF,rl];exact k):p:=h k
def Hc{p:Prop}(h:p:=by rw[qO,z6,qtJ]at h';exact⟨_,_,h',.i _ _,by simp[binOp,Op.shift,hn]⟩):p:=h
def Hd{p:Prop}(h:p:=by refine qbj ?_;simp only[↓vS,vT,simprocAttr,Int.reduceLT,vZ,and_self]):p:=h
def He{p:Prop}(h:p:=by simp +decide only[↓vS,vT,simprocAttr,hlt',zE];rw[hI'];simp[vZ,xj,zE]):p:=h
def Hf{p:Prop}(h:p:=by simp[vw,wI,wkB,wTr,wT,qfR,qkP,qo,qF,qN,qA,qa,hex,qD,qb5,qcv,qaI,wg,xO]):p:=h
def Hg{p q:Prop}(k:q)(h:q->p:=by intro k;simp only[vI,simprocAttr,mkB,mkC,qm,zzC,zzN];exact k):p:=h k
def Hh{p q:Prop}(k:q)(h:q->p:=by intro k;simp +decide only[↓vS,vT,simprocAttr,hl,g0,g1,hp,↓zW h32,hr];refine hsh.sc ?_;refine Sa (zzA hl s0) ?_;exact k):p:=h k
def Hi{p:Prop}(h:p:=by rw[hw,Array.size_setIfInBounds];exact r.dn.2 b L hb):p:=h
def Hj{p:Prop}(h:p:=by exact h2.2 Z B w args r (by rw[hl];exact .cons _ _ _ _ (.nz _ _) hxs)):p:=h
def Hk{p:Prop}(h:p:=by rename_i hb;subst hb;rw[hL]at h;cases h):p:=h
def Hl{p:Prop}(h:p:=by refine Sa h1 ?_;simp[vZ]):p:=h
def Hm{p:Prop}(h:p:=by simp[vw,qa,qF]):p:=h
def Hn{p:Prop}(h:p:=by simp[vw,qo,qN,qA,hrc]):p:=h
def Ho{p q:Prop}(k:q)(h:q->p:=by
 intro k
 show qc5 h esz x (λn new=>qv (Nat.ble n qe) (qv (Nat.ble (Nat.mul n bytes) qe) _))↔_
 simp only[qf,vk]
 exact k):p:=h k
def Hq{p:Prop}(h:p:=by simp_all[qk0]):p:=h
def Hr{p:Prop}(h:p:=by subst hj';refine Sb hlt ?_;intro _;refine⟨[0],?_⟩;simp[vw,qa,zt]):p:=h
def Hs{p:Prop}(h:p:=by simp +decide only[↓vS,vT,simprocAttr,hgt,hgt2,zzU,hga];simp[vZ,h5]):p:=h
def Ht{p:Prop}(h:p:=by simp +decide only[↓vS,vT,simprocAttr,↓zW h32,hr,hp,hsh];simp[vZ]):p:=h
def Hu{p:Prop}(h:p:=by rw[e];exact ho):p:=h
def Hv{p:Prop}(h:p:=by rw[Bool.eq_iff_iff];simp[UInt8.toNat_inj]):p:=h
def Hw{p:Prop}(h:p:=by simp[execOp,ho,Instr.index,h6,h10,asIntOf,qL (qen h1),hlt,xy h2,hp]):p:=h
def Hx{p:Prop}(h:p:=by simp +decide only[↓vS,vT,simprocAttr,List.length_nil];simp[vZ,h5]):p:=h
def Hy{p:Prop}(h:p:=by exact hk _ _ _ ((h.stpNew .no _ (by simp)).trans st) (hw.dropS rfl)):p:=h
def Hz{p:Prop}(h:p:=by exact⟨s,List.mem_append_right _ (List.mem_cons_of_mem _ hs),hq⟩):p:=h
def H1{p:Prop}(h:p:=by refine Sa (zzA h1' (zzA h2' (zzA h3' h4'))) ?_;simp[vZ,h1,h2,h3,h4]):p:=h
def H2{p q:Prop}(k:q)(h:q->p:=by intro k;simp only[↓vS,vT,simprocAttr,zf,xb,zzv,List.flatMap_nil];exact k):p:=h k
def H3{p:Prop}(h:p:=by obtain⟨q,h1,h2⟩:=hj;rw[hr]at h1;cases h1;rw[hwr]at h2;cases h2):p:=h
def H4{p:Prop}(h:p:=by simpa using hi):p:=h
def H5{p:Prop}(h:p:=by simpa using this):p:=h
def H6{p:Prop}(h:p:=by simp[vw,qm,qa,qg,qd,zt]):p:=h
def H7{p:Prop}(h:p:=by simp[vw,qm,qa,qg,qd]):p:=h
def H8{p:Prop}(h:p:=by simp[qt,clo,qeh,qei]):p:=h
def H9{p:Prop}(h:p:=by exact r1'.app b L e wf cs hb hx b' L' e' wf' af' cs' hb' hx' he):p:=h
def Ia{p:Prop}(h:p:=by unfold qhx at h;split at h<;>simp_all):p:=h
def Ib{p:Prop}(h:p:=by rw[List.mem_zipIdx_iff_getElem?];exact hq):p:=h
def Ic{p:Prop}(h:p:=by simp only[↓vS,vT,simprocAttr,hp,hw2,hpl,g0,hlt2];simp[vZ,hwf]):p:=h
def Id{p:Prop}(h:p:=by simp[e]):p:=h
def Ie{p:Prop}(h:p:=by rcases h16 with⟨_,_,_⟩|⟨_,_⟩<;>omega):p:=h
def If{p:Prop}(h:p:=by simp[qt,clo,ha,hcc]):p:=h
def Ig{p:Prop}(h:p:=by unfold wJ;rw[if_neg hA,if_pos h4,if_pos hja]):p:=h
def Ih{p:Prop}(h:p:=by simp at hg;subst hg;exact qnO hE (ze x) rfl hB _ _ qk3 hE' hk'):p:=h
def Ii{p:Prop}(h:p:=by rw[h]):p:=h
def Ij{p:Prop}(h:p:=by refine Sa (zzA hz' hb') ?_;simp[vZ]):p:=h
def Ik{p q:Prop}(k:q)(h:q->p:=by intro k;show evK t x (λx=>_)↔_;exact k):p:=h k
def Il{p:Prop}(h:p:=by exact L2.wh _ (L2.wh _ (L2.b2 (qfI _ _) λb h'=>L2.ret _ _))):p:=h
def Im{p:Prop}(h:p:=by simp only[clo]at h;simp only[shv,xw h]):p:=h
def In{p:Prop}(h:p:=by simp[zV]):p:=h
def Io{p:Prop}(h:p:=by rw[<- qlh];rfl):p:=h
def Ip{p:Prop}(h:p:=by rw[<- qmo];rfl):p:=h
def Iq{p:Prop}(h:p:=by simp[qt,clo,qo,wo]):p:=h
def Ir{p:Prop}(h:p:=by simp[xF]):p:=h
def Is{p:Prop}(h:p:=by simp only[Bool.and_eq_true,decide_eq_true_eq] at h';exact h'):p:=h
def It{p:Prop}(h:p:=by simp[vw,mkB,mkC,qm,qa,qu,qg,qd,rR]):p:=h
def Iu{p:Prop}(h:p:=by refine Sb h0 ?_;refine qX ?_;refine Sb h0 ?_;simp[vZ,xr,h0]):p:=h
def Iv{p:Prop}(h:p:=by simp[vw,qo]):p:=h
def Iw{p q:Prop}(k:q)(h:q->p:=by intro k;simp +decide only[↓vS,vT,simprocAttr,h4,hb,n4,nb,n4b,nb6,ns6,nb1,n41,ns2,hr1,hr2,hlp,hap,zzU];exact k):p:=h k
def Ix{p:Prop}(h:p:=by rw[hw,zzw];simp[hlt]):p:=h
def Iy{p:Prop}(h:p:=by simp[qK]):p:=h
def Iz{p:Prop}(h:p:=by simp at hg;subst hg;exact qgU hL zF rfl hB _ _ qk3 hL' hk'):p:=h
def I0{p:Prop}(h:p:=by rw[st2.lab _ _ _ qU];simp[gdE,hs,hm]):p:=h
def I1{p:Prop}(h:p:=by simp[execOp,hoo,resolve,Act.eval,Deferred.ofValue,invoke]):p:=h
def I3{p:Prop}(h:p:=by rw[hI];simp[okC,qec r0 r1,e0,e1,e2,e3']):p:=h
def I4{p:Prop}(h:p:=by simp[zz4,n6,h6,nb6,Ne.symm nb6,n61,ns4]):p:=h
def I5{p q:Prop}(k:q)(h:q->p:=by intro k;simp only[Builtin.firstCells];exact k):p:=h k
def I6{p:Prop}(h:p:=by grind[Rel.flr]):p:=h
def I7{p:Prop}(h:p:=by rw[hby];exact b2):p:=h
def I8{p:Prop}(h:p:=by exact⟨_,t1,h1,Z1,rs,.normal,hq,ht1,hs1,hd1,hm,r1,k1⟩):p:=h
def I9{p:Prop}(h:p:=by simp[qt,clo,qgk]):p:=h
def Ja{p:Prop}(h:p:=by rw[qk hbLc];exact(sv.fr bL hL0').1):p:=h
def Jb{p:Prop}(h:p:=by
 split at hb
 .cases hb
 split at hb<;>cases hb):p:=h
def Jc{p:Prop}(h:p:=by simp[vw,qd]):p:=h
def Jd{p q:Prop}(k:q)(h:q->p:=by intro k;simp only[↓vS,vT,simprocAttr,Int.reduceLT,Int.reduceAdd,qC,Int.reduceLE,Int.reduceNeg,h2];exact k):p:=h k
def Je{p q:Prop}(k:q)(h:q->p:=by intro k;simp only[↓vS,vT,simprocAttr,Int.reduceLT,Int.reduceAdd,qC,Int.reduceLE,Int.reduceNeg,h1];exact k):p:=h k
def Jf{p:Prop}(h:p:=by simp[xF,mkB]):p:=h
def Jg{p:Prop}(h:p:=by simp only[xg,↓vS,vT,simprocAttr,k1'];simp[vZ,<- fin]):p:=h
def Jh{p:Prop}(h:p:=by simp[qt,clo,wG]):p:=h
def Ji{p:Prop}(h:p:=by simp[qt,clo,jh]):p:=h
def Jj{p:Prop}(h:p:=by apply List.ext_getElem?;grind[qkA]):p:=h
def Jk{p:Prop}(h:p:=by rw[List.take_take,Nat.min_eq_left h]):p:=h
def Jl{p:Prop}(h:p:=by rcases hc2 with rfl|rfl|rfl<;>decide):p:=h
def Jm{p:Prop}(h:p:=by exact Res.pure r h5 (by simp[execOp,ho,h3,asBool]) h6):p:=h
def Jn{p:Prop}(h:p:=by exact h2.elim):p:=h
def Jo{p:Prop}(h:p:=by rw[hI];simp[okC,qec r0 r1,e0,e1,e2]):p:=h
def Jp{p:Prop}(h:p:=by rw[if_neg h0]at hI;refine Sa h0 ?_;rw[<- hI];simp[vZ]):p:=h
def Jq{p:Prop}(h:p:=by refine Sa (zzA gc (zzA gt (zzA hj h5))) ?_;simp[vZ,e]):p:=h
def Jr{p:Prop}(h:p:=by rw[qk nK'];exact st2.lab _ _ _ (((qk nK').trans kK'))):p:=h
def Js{p:Prop}(h:p:=by rw[qk nA'];exact st2.lab _ _ _ (((qk nA').trans kA'))):p:=h
def Jt{p:Prop}(h:p:=by rw[<- List.drop_drop,hd];rfl):p:=h
def Ju{p:Prop}(h:p:=by subst h1;exact .fn _ _ _ _ _ h2 h3):p:=h
def Jv{p:Prop}(h:p:=by rw[List.eq_nil_of_length_eq_zero (hl2.trans h0)];rfl):p:=h
def Jw{p:Prop}(h:p:=by rw[jq];rfl):p:=h
def Jx{p:Prop}(h:p:=by rw[<- hI,hdr];rfl):p:=h
def Jy{p:Prop}(h:p:=by rw[st7.lab _ _ _ hb6];simp[vq]):p:=h
def Jz{p:Prop}(h:p:=by refine Sa (zzA h1 (zzA h2 (zzA h3' h3))) ?_;simp[vZ]):p:=h
def J0{p:Prop}(h:p:=by simp[buT,mkT,zz4]):p:=h
def J1{p q:Prop}(k:q)(h:q->p:=by intro k;refine⟨by simp,.inl ⟨r,w'.putObj r (.deferred none),rfl,run_takeDeferred h1,?_⟩⟩;exact k):p:=h k
def zza:=@Option.map_some.{0,0}
def zzb:=@decide_eq_true_eq
def zzc:=@List.mem_cons.{0}
def zzd:=@List.mem_append.{0}
def zze:=@List.length_cons.{0}
def zzf:=@List.drop_eq_getElem_cons.{0}
def zzg:=@Nat.le_trans
def zzh:=@Nat.lt_of_lt_of_le
def zzi:=@List.append_assoc.{0}
def zzj:=@List.getElem?_append_left.{0}
def zzk:=@List.drop_eq_nil_of_le.{0}
def zzl:=@List.mem_map.{0,0}
def zzm:=@List.length_take.{0}
def zzn:=@List.getElem?_cons_zero.{0}
def zzo:=@List.getElem?_map.{0,0}
def zzp:=@List.getElem?_drop.{0}
def zzq:=@List.getElem?_take_of_lt.{0}
def zzr:=@List.getElem?_append_right.{0}
def zzs:=@List.getD_eq_getElem?_getD.{0}
def zzt:=@List.take_of_length_le.{0}
def zzu:=@Nat.zero_le
def zzv:=@List.flatMap_cons.{0,0}
def zzw:=@Array.getElem?_setIfInBounds.{0}
def zzx:=@Option.isSome_iff_exists.{0}
def zzy:=@List.all_eq_true.{0}
def zzz:=@List.length_map.{0,0}
def zz0:=@List.take_length.{0}
def zz1:=@List.mem_singleton.{0}
def zz2:=@List.take_add_one.{0}
def zz3:=@List.map_cons.{0,0}
noncomputable section
section
theorem zzA{a b:Prop}(x:a)(y:b):a∧b:=⟨x,y⟩
theorem zzB(a b:Bool):((a&&b)=true)=(a=true∧b=true):=by first|exact Bool.and_eq_true _ _|exact Bool.and_eq_true _|exact Bool.and_eq_true
theorem zzO(a b:Bool):((a||b)=true)=(a=true∨b=true):=by first|exact Bool.or_eq_true _ _|exact Bool.or_eq_true _|exact Bool.or_eq_true
theorem zzL(n:Nat):n≤n:=by first|exact Nat.le_refl _ _|exact Nat.le_refl _|exact Nat.le_refl
theorem zzC{α:Type _}{a:α}{l m:List α}:a::l++m=a::(l++m):=by first|exact List.cons_append _ _|exact List.cons_append _|exact List.cons_append
theorem zzN{α:Type _}(l:List α):[]++l=l:=by first|exact List.nil_append _ _|exact List.nil_append _|exact List.nil_append
theorem zzP{α:Type _}{l m:List α}:(l++m).length=l.length+m.length:=by first|exact List.length_append _ _|exact List.length_append _|exact List.length_append
theorem zzU(n:Nat):n*1=n:=by first|exact Nat.mul_one _ _|exact Nat.mul_one _|exact Nat.mul_one
def zzE{α:Type _}{l:List α}{i:Nat}(h:i<l.length):l[i]?=some l[i]:=List.getElem?_eq_getElem h
def zzS{α:Type _}{l:List α}{i:Nat}{a:α}:l[i]?=some a↔∃h:i<l.length,l[i]=a:=List.getElem?_eq_some_iff
def zzM{α:Type _}{l:List α}{i:Nat}{a:α}(h:l[i]?=some a):a∈l:=List.mem_of_getElem? h
inductive Tr (α:Type) where
 | leaf
 | node (v:Option α) (l r:Tr α)
namespace Tr
variable {α:Type}
def get(t:Tr α):Nat->Option α :=
 Tr.rec (λ_=>none) (λv _ _ gl gr n=>Nat.rec v (λm _=>Bool.rec (gr (Nat.div m 2)) (gl (Nat.div m 2)) (Nat.beq (Nat.mod m 2) 0)) n) t
def getK(t:Tr α):Nat->(α->Prop)->Prop :=
 Tr.rec (motive:=λ_=>Nat->(α->Prop)->Prop) (λ_ _=>False)
  (λv _ _ gl gr n k=>Nat.rec (motive:=λ_=>Prop) (Option.rec (motive:=λ_=>Prop) False k v)
   (λm _=>Bool.rec (motive:=λ_=>Prop) (gr (Nat.div m 2) k) (gl (Nat.div m 2) k) (Nat.beq (Nat.mod m 2) 0)) n) t
def mk(f:Nat):Nat->α->Tr α :=
 Nat.rec (λ_ _=>.leaf) (λ_ ih n x=>Nat.rec (.node (some x) .leaf .leaf)
  (λm _=>Bool.rec (.node none .leaf (ih (Nat.div m 2) x)) (.node none (ih (Nat.div m 2) x) .leaf) (Nat.beq (Nat.mod m 2) 0)) n) f
def mkK(f:Nat):Nat->α->(Tr α->Prop)->Prop :=
 Nat.rec (motive:=λ_=>Nat->α->(Tr α->Prop)->Prop) (λ_ _ k=>k .leaf) (λ_ ih n x k=>Nat.rec (motive:=λ_=>Prop) (k (.node (some x) .leaf .leaf))
  (λm _=>Bool.rec (motive:=λ_=>Prop) (ih (Nat.div m 2) x (λr=>k (.node none .leaf r))) (ih (Nat.div m 2) x (λl=>k (.node none l .leaf))) (Nat.beq (Nat.mod m 2) 0)) n) f
def set(t:Tr α):Nat->α->Tr α :=
 Tr.rec (λn x=>mk (Nat.succ n) n x) (λv l r sl sr n x=>Nat.rec (.node (some x) l r)
  (λm _=>Bool.rec (.node v l (sr (Nat.div m 2) x)) (.node v (sl (Nat.div m 2) x) r) (Nat.beq (Nat.mod m 2) 0)) n) t
def setK(t:Tr α):Nat->α->(Tr α->Prop)->Prop :=
 Tr.rec (motive:=λ_=>Nat->α->(Tr α->Prop)->Prop) (λn x k=>mkK (Nat.succ n) n x k) (λv l r sl sr n x k=>Nat.rec (motive:=λ_=>Prop) (k (.node (some x) l r))
  (λm _=>Bool.rec (motive:=λ_=>Prop) (sr (Nat.div m 2) x (λr'=>k (.node v l r'))) (sl (Nat.div m 2) x (λl'=>k (.node v l' r))) (Nat.beq (Nat.mod m 2) 0)) n) t
def qut(m:Nat):Nat.beq (Nat.mod m 2) 0=decide (m % 2=0):=by
 show Nat.beq (m % 2) 0=_;rcases h:m % 2 with _|k
 .rfl
 .simp[Nat.beq]
@[simp] theorem get_leaf (n:Nat):(Tr.leaf:Tr α).get n=none:=rfl
theorem get_node(v:Option α)(l r:Tr α)(n:Nat) :
  (Tr.node v l r).get n=match n with|0=>v|m+1=>if m % 2=0 then l.get (m / 2)else r.get (m / 2):=by
 cases n with
 | zero=>rfl
 | succ m =>
  show(Bool.rec (motive:=λ_=>Option α) (r.get (Nat.div m 2)) (l.get (Nat.div m 2)) (Nat.beq (Nat.mod m 2) 0):Option α)=_
  exact Cl
theorem set_node(v:Option α)(l r:Tr α)(n:Nat)(x:α) :
  (Tr.node v l r).set n x=match n with|0=>.node (some x) l r|m+1=>if m % 2=0 then .node v (l.set (m / 2) x) r else .node v l (r.set (m / 2) x):=by
 cases n with
 | zero=>rfl
 | succ m =>
  show Bool.rec (motive:=λ_=>Tr α) (Tr.node v l (r.set (Nat.div m 2) x)) (Tr.node v (l.set (Nat.div m 2) x) r) (Nat.beq (Nat.mod m 2) 0)=_
  exact Cl
theorem mk_succ(f n:Nat)(x:α) :
  (mk (f+1) n x)=match n with|0=>.node (some x) .leaf .leaf|m+1=>if m % 2=0 then .node none (mk f (m / 2) x) .leaf else .node none .leaf (mk f (m / 2) x):=by
 cases n with
 | zero=>rfl
 | succ m =>
  show Bool.rec (motive:=λ_=>Tr α) (Tr.node none .leaf (mk f (Nat.div m 2) x)) (Tr.node none (mk f (Nat.div m 2) x) .leaf) (Nat.beq (Nat.mod m 2) 0)=_
  exact Cl
def qFN(f:Nat):∀(n:Nat) (x:α),n<f->∀j,(mk f n x).get j=if j=n then some x else none:=by
 induction f<;>grind[Tr.mk_succ,Tr.get_node,Tr.get_leaf]
theorem get_set(t:Tr α):∀(n:Nat) (x:α) (j:Nat),(t.set n x).get j=if j=n then some x else t.get j:=by
 induction t with
 | leaf=>intro n x j;show(mk (n+1) n x).get j=_;rw[qFN _ _ _ Ab];rfl
 | node v l r ihl ihr =>
  grind[Tr.set_node,Tr.get_node]
theorem getK_iff(t:Tr α):∀(n:Nat) (k:α->Prop),t.getK n k↔∃v,t.get n=some v/\k v:=by
 induction t with
 | leaf => intro n k;constructor
           .intro h;exact h.elim
           exact Ae
 | node v l r ihl ihr =>
  intro n k;cases n with
  | zero =>
   show(Option.rec (motive:=λ_=>Prop) False k v:Prop)↔_
   cases v<;>grind[Tr.get_node]
  | succ m =>
   show(Bool.rec (motive:=λ_=>Prop) (r.getK (Nat.div m 2) k) (l.getK (Nat.div m 2) k) (Nat.beq (Nat.mod m 2) 0):Prop)↔_
   rw[qut,get_node]
   by_cases h:m % 2=0
   .simp only[h,decide_true,if_true];exact ihl _ _
   .simp only[h,decide_false,if_false];exact ihr _ _
def qB5(f:Nat):∀(n:Nat) (x:α) (k:Tr α->Prop),mkK f n x k↔k (mk f n x):=by
 induction f with
 | zero=>intro n x k;exact Bt
 | succ f ih =>
  intro n x k;cases n with
  | zero=>exact Bt
  | succ m =>
   show(Bool.rec (motive:=λ_=>Prop) (mkK f (Nat.div m 2) x (λr=>k (.node none .leaf r))) (mkK f (Nat.div m 2) x (λl=>k (.node none l .leaf))) (Nat.beq (Nat.mod m 2) 0):Prop)↔_
   rw[qut,mk_succ]
   by_cases h:m % 2=0
   .simp only[h,decide_true,if_true];exact ih _ _ _
   .simp only[h,decide_false,if_false];exact ih _ _ _
theorem setK_iff(t:Tr α):∀(n:Nat) (x:α) (k:Tr α->Prop),t.setK n x k↔k (t.set n x):=by
 induction t with
 | leaf=>intro n x k;exact qB5 (n+1) n x k
 | node v l r ihl ihr =>
  intro n x k;cases n with
  | zero=>exact Bt
  | succ m =>
   show(Bool.rec (motive:=λ_=>Prop) (r.setK (Nat.div m 2) x (λr'=>k (.node v l r'))) (l.setK (Nat.div m 2) x (λl'=>k (.node v l' r))) (Nat.beq (Nat.mod m 2) 0):Prop)↔_
   rw[qut,set_node]
   by_cases h:m % 2=0
   .simp only[h,decide_true,if_true];exact ihl _ _ _
   .simp only[h,decide_false,if_false];exact ihr _ _ _
end Tr
def zz4:=@Tr.get_set
inductive AV where
 | b (x:Bool)
 | i (k:IntKind) (n:Int)
 | s (x:List UInt8)
 | nilp
 | ptr (blk off:Nat)
 | nils
 | sl (blk off len cap:Nat) (loose:Bool)
 | nilf
 | fn (f:Nat) (first cap:List AV)
 | nili
 | ifc (t:Nat) (v:AV)
 | agg (cs:List AV)
 | tup (cs:List AV)
 | nilm
 | map (r:Nat)
 | sym (id:Nat)
 | undef
 | fz (n:Nat) (cs:List AV)
 | pf (cs:List AV) (off:Nat)
 | e0
 | own (blk n:Nat)
 | nz
 | yl (blk:Nat)
 | lp (r:Loop)
inductive Blk where
 | cells (esz:Nat) (w a:Bool) (cs:List AV)
 | dead
 | map (es:List (AV×AV))
structure Hp where
 sz:Nat
 fl:Nat
 tr:Tr Blk
inductive O where
 | t (n:Nat)
 | c (v:AV)
inductive PK where
 | b|i|s
inductive NK where
 | ptr|slice|func|iface|map
inductive IOp where
 | mov (x:O)
 | pick (c x y:O)
 | alloc (zero:List AV)
 | box (x:O)
 | build (zero:List AV) (parts:List (Nat×Nat×O))
 | buildS (len:Nat) (zero:List AV) (parts:List (Nat×Nat×O))
 | load1 (x:O)
 | loadN (n:Nat) (x:O)
 | store (n:Nat) (x v:O)
 | nilChk (x:O)
 | bin (op:BinOp) (x y:O)
 | eqB (neg:Bool) (x y:O)
 | eqN (neg:Bool) (q:NK) (x:O)
 | un (op:UnOp) (x:O)
 | cvInt (k:IntKind) (x:O)
 | fAddr (off:Nat) (x:O)
 | fld (off:Nat) (n:Option Nat) (x:O)
 | iAddrA (len esz:Nat) (x i:O)
 | iAddrS (esz:Nat) (x i:O)
 | idxA (len esz:Nat) (agg:Bool) (x i:O)
 | idxS (x i:O)
 | slcS (esz:Nat) (x:O) (lo hi mx:Option O)
 | slcStr (x:O) (lo hi:Option O)
 | slcA (len esz:Nat) (x:O) (lo hi mx:Option O)
 | ext (x:O) (i:Nat)
 | mkF (f:Nat) (first cap:List O)
 | mkS (esz bytes:Nat) (zero:List AV) (len cap:O)
 | len (str:Bool) (x:O)
 | app (esz bytes:Nat) (consume:Bool) (s x:O)
 | max (x y:O)
 | clear (zero:List AV) (x:O)
 | mkM
 | lookM (kd:Option IntKind) (ok:Bool) (zero:AV) (x i:O)
 | updM (kd:Option IntKind) (x i v:O)
 | min (x y:O)
 | storeD (n:Nat) (x v:O) (ps:List Nat)
 | appD (esz bytes:Nat) (s x:O) (ps:List Nat)
 | no
inductive RK where
 | op (o:IOp)
 | callF (f:Nat) (args:List O)
 | callV (x:O) (args:List O)
 | callW (f:Nat) (args:List O)
 | callVW (x:O) (args:List O)
structure ROp where
 dst:Option Nat
 k:RK
 guard:Option (Nat×Bool)
inductive ICode where
 | skip
 | reg (draw:Bool) (ops:List ROp)
 | seq (x y:ICode)
 | cond (c:O) (x y:ICode)
 | blk (id:Nat) (x:ICode)
 | loop (x:ICode)
 | exit (id:Nat)
 | ret
 | no
 | cut (x:ICode)
 | rangeF (j:Nat) (g:O) (ps:List Nat) (x y:ICode)
inductive RV where
 | tmp (n:Nat)
 | cell (n size:Nat) (agg:Bool)
structure IFn where
 res:List RV
 body:ICode
inductive X where
 | normal
 | exit (id:Nat)
 | ret
structure Orc where
 bin:BinOp->AV->AV->Option AV
 len:Nat->Option AV
 cv:IntKind->Nat->Option AV
def qE(n:Nat)(k:Nat->Prop):Prop:=Nat.rec (motive:=λ_=>Prop) (k 0) (λm _=>k (Nat.succ m)) n
def jH(n:Int)(k:Int->Prop):Prop:=Int.rec (motive:=λ_=>Prop) (λm=>qE m (λm=>k (.ofNat m))) (λm=>qE m (λm=>k (.negSucc m))) n
def zl(x:Bool)(k:Bool->Prop):Prop:=Bool.rec (motive:=λ_=>Prop) (k false) (k true) x
@[simp] theorem qO (n:Nat) (k:Nat->Prop):qE n k=k n:=by cases n<;>rfl
@[simp] theorem z6 (n:Int) (k:Int->Prop):jH n k=k n:=by cases n<;>simp[jH]
@[simp] theorem zi (n:Bool) (k:Bool->Prop):zl n k=k n:=by cases n<;>rfl
def qjt(l:List AV):Nat->(AV->Prop)->Prop :=
 List.rec (motive:=λ_=>Nat->(AV->Prop)->Prop) (λ_ _=>False) (λx _ ih n k=>Nat.rec (motive:=λ_=>Prop) (k x) (λm _=>ih m k) n) l
def qdD(n:Nat):List AV->(List AV->Prop)->Prop :=
 Nat.rec (motive:=λ_=>List AV->(List AV->Prop)->Prop) (λ_ k=>k []) (λ_ ih l k=>List.rec (motive:=λ_=>Prop) False (λx xs _=>ih xs (λys=>k (x::ys))) l) n
def qdX(n:Nat):List AV->(List AV->Prop)->Prop :=
 Nat.rec (motive:=λ_=>List AV->(List AV->Prop)->Prop) (λl k=>k l) (λ_ ih l k=>List.rec (motive:=λ_=>Prop) False (λ_ xs _=>ih xs k) l) n
def qD7(vs:List AV):List AV->(List AV->Prop)->Prop :=
 List.rec (motive:=λ_=>List AV->(List AV->Prop)->Prop) (λl k=>k l) (λv _ ih l k=>List.rec (motive:=λ_=>Prop) False (λ_ xs _=>ih xs (λys=>k (v::ys))) l) vs
def wH(vs:List AV)(off:Nat):List AV->(List AV->Prop)->Prop :=
 Nat.rec (motive:=λ_=>List AV->(List AV->Prop)->Prop) (λl k=>qD7 vs l k) (λ_ ih l k=>List.rec (motive:=λ_=>Prop) False (λx xs _=>ih xs (λys=>k (x::ys))) l) off
def qnY(zy:List AV)(bs:List AV)(k:List AV->Prop):Prop :=
 List.rec (motive:=λ_=>(List AV->Prop)->Prop) (λk=>k bs) (λx _ ih k=>ih (λys=>k (x::ys))) zy k
def qiJ(l:List AV)(k:Nat->Prop):Prop :=
 List.rec (motive:=λ_=>Nat->(Nat->Prop)->Prop) (λn k=>k n) (λ_ _ ih n k=>qE (Nat.succ n) (λm=>ih m k)) l 0 k
def ql2(z:List AV)(n:Nat)(k:List AV->Prop):Prop :=
 Nat.rec (motive:=λ_=>(List AV->Prop)->Prop) (λk=>k []) (λ_ ih k=>ih (λys=>qnY z ys k)) n k
theorem wn(l:List AV):∀(n:Nat) (k:AV->Prop),qjt l n k↔∃v,l[n]?=some v/\k v:=by
 induction l with
 | nil => intro n k;constructor
          .intro h;exact h.elim
          exact Ae
 | cons x xs ih =>
  intro n k;cases n with
  | zero=>simp only[zzn,Option.some.injEq];exact⟨λh=>⟨x,rfl,h⟩,fun⟨v,h,hk⟩=>h ▸ hk⟩
  | succ n=>simp only[List.getElem?_cons_succ];exact ih n k
theorem xe(n:Nat):∀(l:List AV) (k:List AV->Prop),qdD n l k↔n<=l.length/\k (l.take n):=by
 induction n with
 | zero=>intro l k;simp;exact Bt
 | succ n ih =>
  intro l k;cases l with
  | nil=>simp;exact λh=>h
  | cons x xs=>simp only[zze,List.take_succ_cons,Nat.add_le_add_iff_right];exact ih xs (λys=>k (x::ys))
theorem xo(n:Nat):∀(l:List AV) (k:List AV->Prop),qdX n l k↔n<=l.length/\k (l.drop n):=by
 induction n with
 | zero=>intro l k;simp;exact Bt
 | succ n ih =>
  intro l k;cases l with
  | nil=>simp;exact λh=>h
  | cons x xs=>simp only[zze,List.drop_succ_cons,Nat.add_le_add_iff_right];exact ih xs k
def qvP(vs:List AV):∀(l:List AV) (k:List AV->Prop),qD7 vs l k↔vs.length<=l.length/\k (vs++l.drop vs.length):=by
 induction vs with
 | nil=>intro l k;simp;exact Bt
 | cons v vs ih =>
  intro l k;cases l with
  | nil=>simp;exact λh=>h
  | cons x xs=>simp only[zze,List.drop_succ_cons,Nat.add_le_add_iff_right,zzC];exact ih xs (λys=>k (v::ys))
theorem vj(vs:List AV)(off:Nat):∀(l:List AV) (k:List AV->Prop),
  wH vs off l k↔off+vs.length<=l.length/\k (l.take off++(vs++l.drop (off+vs.length))):=by
 induction off with
 | zero=>intro l k;simp only[Nat.zero_add,List.take_zero,zzN];exact qvP vs l k
 | succ n ih =>
  intro l k;cases l with
  | nil => simp only[List.length_nil,Nat.le_zero];constructor
           .intro h;exact h.elim
           exact Ab
  | cons x xs =>
   have e:n+1+vs.length=(n+vs.length)+1:=Ab
   simp only[e,zze,List.take_succ_cons,List.drop_succ_cons,Nat.add_le_add_iff_right,zzC];exact ih xs (λys=>k (x::ys))
theorem qa7(zy bs:List AV):∀(k:List AV->Prop),qnY zy bs k↔k (zy++bs):=by
 induction zy with
 | nil=>intro k;exact Bt
 | cons x xs ih=>intro k;exact ih (λys=>k (x::ys))
theorem ka(l:List AV)(k:Nat->Prop):qiJ l k↔k l.length:=by
 have key:∀(l:List AV) (n:Nat),(List.rec (motive:=λ_=>Nat->(Nat->Prop)->Prop) (λn k=>k n) (λ_ _ ih n k=>qE (Nat.succ n) (λm=>ih m k)) l n k:Prop)↔k (l.length+n):=by
  intro l
  induction l with
  | nil=>exact Ae
  | cons x xs ih =>
   grind[qO]
 exact key l 0
theorem qeN(z:List AV)(n:Nat):∀(k:List AV->Prop),ql2 z n k↔k (List.replicate n z).flatten:=by
 induction n with
 | zero=>intro k;simp;exact Bt
 | succ n ih =>
  intro k;have h:=ih (λys=>qnY z ys k)
  rw[List.replicate_succ,List.flatten_cons];exact h.trans (qa7 _ _ _)
def hi:IntKind->Nat
 | .i8=>127 | .i16=>32767 | .i32=>2147483647 | .i64=>9223372036854775807
 | .u8=>255 | .u16=>65535 | .u32=>4294967295 | .u64=>18446744073709551615
def qkO(k:IntKind)(n:Int):Int :=
 Int.rec (motive:=λ_=>Int) (λm=>Bool.rec (motive:=λ_=>Int) (k.wrap (.ofNat m)) (.ofNat m) (Nat.ble m (hi k))) (λm=>k.wrap (.negSucc m)) n
def qeT(k:IntKind)(n:Int):qkO k n=k.wrap n:=by
 cases n with
 | ofNat m =>
  show(Bool.rec (motive:=λ_=>Int) (k.wrap (.ofNat m)) (.ofNat m) (Nat.ble m (hi k)):Int)=_
  cases h:Nat.ble m (hi k)with
  | false=>rfl
  | true =>
   have h':m<=hi k:=Ae
   show(Int.ofNat m)=_;cases k<;>simp[hi]at h'<;>simp[IntKind.wrap,IntKind.bits,IntKind.signed]<;>omega
 | negSucc m=>rfl
def ltI(x y:Int):Bool :=
 Int.rec (motive:=λ_=>Bool) (λm=>Int.rec (motive:=λ_=>Bool) (λn=>Nat.ble (Nat.succ m) n) (λ_=>false) y)
  (λm=>Int.rec (motive:=λ_=>Bool) (λ_=>true) (λn=>Nat.ble (Nat.succ n) m) y) x
def eqI(x y:Int):Bool :=
 Int.rec (motive:=λ_=>Bool) (λm=>Int.rec (motive:=λ_=>Bool) (λn=>Nat.beq m n) (λ_=>false) y)
  (λm=>Int.rec (motive:=λ_=>Bool) (λ_=>false) (λn=>Nat.beq m n) y) x
def qhj(m n:Nat):Nat.ble m n=decide (m<=n):=by
 grind[Nat.le_of_ble_eq_true,Nat.ble_eq_true_of_le]
def qdQ(x y:Int):ltI x y=decide (x<y):=by
 cases x<;>cases y<;>simp[ltI,qhj]<;>omega
def qjg(x y:Int):eqI x y=(x==y):=by
 rw[Bool.eq_iff_iff];cases x<;>cases y<;>simp[eqI]<;>omega
def p2(n:Nat):Int:=Int.ofNat (Nat.pow 2 n)
def qtJ(n:Nat):p2 n=(2:Int) ^ n:=by
 show((2 ^ n:Nat):Int)=_;simp
def eqS(x:List UInt8):List UInt8->Bool :=
 List.rec (motive:=λ_=>List UInt8->Bool) (λy=>List.rec (motive:=λ_=>Bool) true (λ_ _ _=>false) y)
  (λc _ ih y=>List.rec (motive:=λ_=>Bool) false (λd ds _=>Bool.rec (motive:=λ_=>Bool) false (ih ds) (Nat.beq c.toNat d.toNat)) y) x
def qcP(x:List UInt8):∀y,eqS x y=(x==y):=by
 induction x with
 | nil=>intro y;cases y<;>rfl
 | cons c cs ih =>
  intro y;cases y with
  | nil=>rfl
  | cons d ds =>
   show(Bool.rec (motive:=λ_=>Bool) false (eqS cs ds) (Nat.beq c.toNat d.toNat):Bool)=_
   rw[ih]
   have:Nat.beq c.toNat d.toNat=(c==d):=Hv
   rw[this];cases h:(c==d)<;>simp[h]
def ltS(x:List UInt8):List UInt8->Bool :=
 List.rec (motive:=λ_=>List UInt8->Bool) (λy=>List.rec (motive:=λ_=>Bool) false (λ_ _ _=>true) y)
  (λc _ ih y=>List.rec (motive:=λ_=>Bool) false (λd ds _=>Bool.rec (motive:=λ_=>Bool) (Bool.rec (motive:=λ_=>Bool) false (ih ds) (Nat.beq c.toNat d.toNat)) true (Nat.ble (Nat.succ c.toNat) d.toNat)) y) x
def qk7(x:List UInt8):∀y,ltS x y=Op.bytesLess x y:=by
 induction x with
 | nil=>intro y;cases y<;>rfl
 | cons c cs ih =>
  intro y;cases y with
  | nil=>rfl
  | cons d ds =>
   show(Bool.rec (motive:=λ_=>Bool) (Bool.rec (motive:=λ_=>Bool) false (ltS cs ds) (Nat.beq c.toNat d.toNat)) true (Nat.ble (Nat.succ c.toNat) d.toNat):Bool)=_
   rw[ih,qhj]
   have h1:Nat.beq c.toNat d.toNat=(c==d):=Hv
   have h2:decide (c.toNat.succ<=d.toNat)=decide (c<d):=by
    rw[decide_eq_decide,UInt8.lt_iff_toNat_lt];exact Ab
   rw[h1,h2];simp only[Op.bytesLess];cases decide (c<d)<;>cases(c==d)<;>rfl
def qas(h:Hp)(b:Nat)(k:Nat->Bool->Bool->List AV->Prop):Prop :=
 h.tr.getK b (λx=>Blk.rec (motive:=λ_=>Prop) k False (λ_=>False) x)
def vg(h:Hp)(x:Blk)(k:Nat->Hp->Prop):Prop :=
 Hp.rec (motive:=λ_=>Prop) (λsz fl tr=>tr.setK sz x (λtr'=>qE (Nat.succ sz) (λs=>k sz ⟨s,fl,tr'⟩))) h
def qd9(h:Hp)(b:Nat)(x:Blk)(k:Hp->Prop):Prop :=
 Hp.rec (motive:=λ_=>Prop) (λsz fl tr=>Bool.rec (motive:=λ_=>Prop) False (tr.setK b x (λtr'=>k ⟨sz,fl,tr'⟩)) (Nat.ble fl b)) h
def ldK(h:Hp)(b off:Nat)(k:AV->Prop):Prop:=qas h b (λ_ _ _ cs=>qjt cs off k)
def qfG(h:Hp)(b off n:Nat)(k:List AV->Prop):Prop:=qas h b (λ_ _ _ cs=>qdX off cs (λl=>qdD n l k))
def zM(v:AV):Bool:=AV.rec (motive_1:=λ_=>Bool) (motive_2:=λ_=>Bool)
 (λ_=>true) (λ_ _=>true) (λ_=>true) true (λ_ _=>true) true (λ_ _ _ _ _=>true) true (λ_ _ _ _ _=>true) true (λ_ _ _=>true) (λ_ _=>false) (λ_ _=>false) true (λ_=>true) (λ_=>true) false (λ_ _ _=>true) (λ_ _ _=>true) true (λ_ _=>true) true (λ_=>true) (λ_=>false)
 true (λ_ _ h t=>Bool.rec (motive:=λ_=>Bool) false t h) v
def qQ(l:List AV):Bool:=List.rec (motive:=λ_=>Bool) true (λv _ ih=>Bool.rec (motive:=λ_=>Bool) false ih (zM v)) l
def ldV(h:Hp)(p:AV)(k:AV->Prop):Prop:=match p with | .ptr b o=>ldK h b o k | .pf cs o=>qjt cs o k|_=>False
def qlZ(h:Hp)(p:AV)(n:Nat)(k:List AV->Prop):Prop:=match p with | .ptr b o=>qfG h b o n k | .pf cs o=>qdX o cs (λl=>qdD n l k)|_=>False
def qjr(p:AV)(n:Nat)(k:AV->Prop):Prop:=match p with | .ptr b o=>qE (Nat.add o n) (λo'=>k (.ptr b o')) | .pf cs o=>qE (Nat.add o n) (λo'=>k (.pf cs o'))|_=>False
def stK(h:Hp)(b off:Nat)(vs:List AV)(k:Hp->Prop):Prop :=
 qas h b (λe w a cs=>Bool.rec (motive:=λ_=>Prop) False (Bool.rec (motive:=λ_=>Prop) False (wH vs off cs (λcs'=>qd9 h b (.cells e w a cs') k)) (qQ vs)) w)
def qdJ:AV->Bool
 | .undef=>false
 | _=>true
def cellsOf:AV->List AV
 | .agg cs=>cs
 | v=>[v]
def evK(t:Tr AV)(x:O)(k:AV->Prop):Prop:=O.rec (motive:=λ_=>Prop) (λn=>t.getK n k) k x
def qaq(t:Tr AV)(xs:List O)(k:List AV->Prop):Prop :=
 List.rec (motive:=λ_=>(List AV->Prop)->Prop) (λk=>k []) (λx _ ih k=>evK t x (λv=>ih (λvs=>k (v::vs)))) xs k
def unB(v:AV)(k:Bool->Prop):Prop:=match v with | .b x=>k x|_=>False
def unI(v:AV)(k:IntKind->Int->Prop):Prop:=match v with | .i q n=>k q n|_=>False
def unN(v:AV)(k:Nat->Prop):Prop:=match v with | .i _ n=>Int.rec (motive:=λ_=>Prop) k (λ_=>False) n|_=>False
def unP(v:AV)(k:Nat->Nat->Prop):Prop:=match v with | .ptr b o=>k b o|_=>False
def qv(x:Bool)(k:Prop):Prop:=Bool.rec (motive:=λ_=>Prop) False k x
def x4(op:BinOp)(q:IntKind)(x y:Int)(k:AV->Prop):Prop :=
 match op with
 | .add=>jH (qkO q (Int.add x y)) (λr=>k (.i q r))
 | .sub=>jH (qkO q (Int.sub x y)) (λr=>k (.i q r))
 | .mul=>jH (qkO q (Int.mul x y)) (λr=>k (.i q r))
 | .quo=>Bool.rec (motive:=λ_=>Prop) (jH (qkO q (x.tdiv y)) (λr=>k (.i q r))) False (eqI y 0)
 | .rem=>Bool.rec (motive:=λ_=>Prop) (jH (x.tmod y) (λr=>k (.i q r))) False (eqI y 0)
 | .and=>jH (q.wrap (BitVec.ofInt q.bits x &&& BitVec.ofInt q.bits y).toNat) (λr=>k (.i q r))
 | .or=>jH (q.wrap (BitVec.ofInt q.bits x ||| BitVec.ofInt q.bits y).toNat) (λr=>k (.i q r))
 | .xor=>jH (q.wrap (BitVec.ofInt q.bits x ^^^ BitVec.ofInt q.bits y).toNat) (λr=>k (.i q r))
 | .andNot=>jH (q.wrap (BitVec.ofInt q.bits x &&& ~~~ (BitVec.ofInt q.bits y)).toNat) (λr=>k (.i q r))
 | .eql=>zl (eqI x y) (λr=>k (.b r))
 | .neq=>zl (eqI x y) (λr=>zl (not r) (λr=>k (.b r)))
 | .lss=>zl (ltI x y) (λr=>k (.b r))
 | .leq=>zl (ltI y x) (λr=>zl (not r) (λr=>k (.b r)))
 | .gtr=>zl (ltI y x) (λr=>k (.b r))
 | .geq=>zl (ltI x y) (λr=>zl (not r) (λr=>k (.b r)))
 | .shl | .shr=>False
def qll(op:BinOp)(q:IntKind)(x y:Int)(k:AV->Prop):Prop :=
 Int.rec (motive:=λ_=>Prop) (λm=>qE (min m q.bits) (λn=>match op with
  | .shl=>jH (q.wrap (x*p2 n)) (λr=>k (.i q r))
  | .shr=>jH (x.fdiv (p2 n)) (λr=>k (.i q r))
  | _=>False)) (λ_=>False) y
def qct(op:BinOp)(x y:List UInt8)(k:AV->Prop):Prop :=
 match op with
 | .add=>Bool.rec (motive:=λ_=>Prop) False (k (.s (x++y))) (Nat.ble (x.length+y.length) 9223372036854775807)
 | .eql=>zl (eqS x y) (λr=>k (.b r))
 | .neq=>zl (eqS x y) (λr=>zl (not r) (λr=>k (.b r)))
 | .lss=>zl (ltS x y) (λr=>k (.b r))
 | .leq=>zl (ltS x y) (λr=>zl (eqS x y) (λe=>zl (or r e) (λr=>k (.b r))))
 | .gtr=>zl (ltS x y) (λr=>zl (eqS x y) (λe=>zl (not (or r e)) (λr=>k (.b r))))
 | .geq=>zl (ltS x y) (λr=>zl (not r) (λr=>k (.b r)))
 | _=>False
def qjw(r:Option AV)(k:AV->Prop):Prop:=Option.rec (motive:=λ_=>Prop) False k r
def x9(orc:Orc)(op:BinOp)(x y:AV)(k:AV->Prop):Prop :=
 match x with
 | .i q n=>(match y with
  | .i q' m=>(match op with
   | .shl=>qll .shl q n m k
   | .shr=>qll .shr q n m k
   | op=>qv (decide (q=q')) (x4 op q n m k))
  | .sym j=>qjw (orc.bin op (.i q n) (.sym j)) k
  | _=>False)
 | .s a=>(match y with
  | .s c=>qct op a c k
  | .sym j=>qjw (orc.bin op (.s a) (.sym j)) k
  | _=>False)
 | .sym j=>qjw (orc.bin op (.sym j) y) k
 | _=>False
def wA(q:NK)(x:AV)(k:Bool->Prop):Prop :=
 match q with
 | .ptr=>(match x with | .nilp=>k true | .ptr _ _=>k false | .pf _ _=>k false|_=>False)
 | .slice=>(match x with | .nils=>k true | .sl _ _ _ _ _=>k false | .fz n _=>qv (Nat.ble 1 n) (k false) | .own _ n=>qv (Nat.ble 1 n) (k false) | .nz=>k false|_=>False)
 | .func=>(match x with | .nilf=>k true | .fn _ _ _=>k false | .yl _=>k false|_=>False)
 | .iface=>(match x with | .nili=>k true | .ifc _ _=>k false|_=>False)
 | .map=>(match x with | .nilm=>k true | .map _=>k false|_=>False)
def qb3(q:PK)(x y:AV)(k:Bool->Prop):Prop :=
 match q with
 | .i=>(match x with | .i q n=>(match y with | .i q' m=>qv (decide (q=q')) (zl (eqI n m) k)|_=>False)|_=>False)
 | .s=>(match x with | .s a=>(match y with | .s c=>zl (eqS a c) k|_=>False)|_=>False)
 | .b=>(match x with | .b a=>(match y with | .b c=>zl (a==c) k|_=>False)|_=>False)
def qdf(qs:List PK):List AV->List AV->(Bool->Prop)->Prop :=
 List.rec (motive:=λ_=>List AV->List AV->(Bool->Prop)->Prop) (λ_ _ k=>k true)
  (λq _ ih x y k=>List.rec (motive:=λ_=>Prop) False (λu us _=>List.rec (motive:=λ_=>Prop) False (λv vs _=>qb3 q u v (λe=>Bool.rec (motive:=λ_=>Prop) (k false) (ih us vs k) e)) y) x) qs
def qfq(op:UnOp)(x:AV)(k:AV->Prop):Prop :=
 match op with
 | .neg=>(match x with | .i q n=>jH (q.wrap (0-n)) (λr=>k (.i q r))|_=>False)
 | .xor=>(match x with | .i q n=>jH (q.wrap (BitVec.ofInt q.bits (if q.signed then -1 else q.max) ^^^ BitVec.ofInt q.bits n).toNat) (λr=>k (.i q r))|_=>False)
 | .not=>(match x with | .b a=>zl (not a) (λr=>k (.b r))|_=>False)
 | .plus=>False
def qai(t:Tr AV)(ps:List (Nat×Nat×O)):List AV->(List AV->Prop)->Prop :=
 List.rec (motive:=λ_=>List AV->(List AV->Prop)->Prop) (λl k=>k l)
  (λp _ ih l k=>evK t p.2.2 (λv=>qv (qdJ v) (qE p.1 (λoff=>qiJ (cellsOf v) (λn=>qv (Nat.beq n p.2.1) (wH (cellsOf v) off l (λl'=>ih l' k))))))) ps
def qbg(t:Tr AV)(x:Option O)(k:Option AV->Prop):Prop:=Option.rec (motive:=λ_=>Prop) (k none) (λx=>evK t x (λv=>k (some v))) x
def qjM(x:Option AV)(dflt top:Nat)(k:Nat->Prop):Prop :=
 Option.rec (motive:=λ_=>Prop) (k dflt) (λv=>unN v (λn=>qv (Nat.ble n top) (qE n k))) x
def xG(len cap:Nat)(lo hi mx:Option AV)(k:Nat->Nat->Nat->Prop):Prop :=
 qjM mx cap cap (λm=>Option.rec (motive:=λ_=>Prop) (Option.rec (motive:=λ_=>Prop) (qv (Nat.ble len m) (qjM lo 0 len (λl=>k l len m))) (λ_=>False) mx)
  (λv=>unN v (λh=>qv (Nat.ble h m) (qE h (λh=>qjM lo 0 h (λl=>k l h m))))) hi)
def qc5(h:Hp)(esz:Nat)(x:AV)(k:Nat->List AV->Prop):Prop :=
 match x with
 | .nils=>k 0 []
 | .sl b o n _ _=>qfG h b o (Nat.mul n esz) (λcs=>k n cs)
 | .fz n cs=>qdD (Nat.mul n esz) cs (λcs=>k n cs)
 | .e0=>k 0 []
 | .nz=>k 0 []
 | .own b n=>qfG h b 0 (Nat.mul n esz) (λcs=>k n cs)
 | .s a=>qv (Nat.beq esz 1) (qE a.length (λn=>k n (a.map λc=>.i .u8 (Int.ofNat c.toNat))))
 | _=>False
def qe:Nat:=70368744177664
def qiH(h:Hp)(esz bytes:Nat)(consume:Bool)(s x:AV)(k:AV->Hp->Prop):Prop :=
 qc5 h esz x (λn new=>match s with
  | .nils=>qv (Nat.ble n qe) (qv (Nat.ble (Nat.mul n bytes) qe) (vg h (.cells esz true true new) (λb h'=>k (.own b n) h')))
  | .e0=>qv (Nat.ble n qe) (qv (Nat.ble (Nat.mul n bytes) qe) (vg h (.cells esz true true new) (λb h'=>k (.own b n) h')))
  | .sl b o len cap loose=>Bool.rec (motive:=λ_=>Prop) (qE (Nat.add len n) (λneed=>Bool.rec (motive:=λ_=>Prop)
    (qv (Nat.ble need qe) (qv (Nat.ble (Nat.mul need bytes) qe)
     (qfG h b o (Nat.mul len esz) (λold=>qnY old new (λcs=>vg h (.cells esz true true cs) (λb' h'=>k (.own b' need) h'))))))
    (Nat.rec (motive:=λ_=>Prop) (k (.sl b o need cap false) h) (λ_ _=>qE (Nat.add o (Nat.mul len esz)) (λat_=>stK h b at_ new (λh'=>k (.sl b o need cap false) h'))) n)
    (Nat.ble need cap)))
    (qE (Nat.add len n) (λneed=>qv (Nat.ble need qe) (qv (Nat.ble (Nat.mul need bytes) qe) (qv (and consume (Nat.beq cap len)) (qas h b (λe w a ys=>qv (qQ new) (qv w (qv a (qv (Nat.beq e esz) (qiJ ys (λq=>qv (Nat.beq q (Nat.add o (Nat.mul len esz))) (qdX o ys (λzs=>qnY zs new (λcs' =>
    qd9 h b .dead (λh1=>vg h1 (.cells esz true true cs') (λb' h'=>k (.own b' need) h')))))))))))))))) loose
  | .fz m cs=>Nat.rec (motive:=λ_=>Prop) (k (.fz m cs) h) (λ_ _=>False) n
  | .own b m=>qE (Nat.add m n) (λneed=>qv (Nat.ble need qe) (qv (Nat.ble (Nat.mul need bytes) qe) (qv consume (qas h b (λe w a ys=>qv (qQ new) (qv w (qv a (qv (Nat.beq e esz) (qiJ ys (λq=>qv (Nat.beq q (Nat.mul m esz)) (qnY ys new (λcs' =>
    qd9 h b .dead (λh1=>vg h1 (.cells esz true true cs') (λb' h'=>k (.own b' need) h'))))))))))))))
  | _=>False)
def qok(h:Hp)(esz:Nat)(d s:AV)(k:AV->Hp->Prop):Prop :=
 match d with
 | .nils=>qc5 h esz s (λ_ _=>k (.i .i64 0) h)
 | .sl b o len _ _=>qc5 h esz s (λn new=>qE (min n len) (λm=>qdD (Nat.mul m esz) new (λcs=>stK h b o cs (λh'=>k (.i .i64 (Int.ofNat m)) h'))))
 | _=>False
def qkI(cs:List AV)(k:List UInt8->Prop):Prop :=
 List.rec (motive:=λ_=>(List UInt8->Prop)->Prop) (λk=>k []) (λv _ ih k=>match v with
  | .i .u8 n=>Int.rec (motive:=λ_=>Prop) (λm=>ih (λl=>k (UInt8.ofNat m::l))) (λ_=>False) n
  | _=>False) cs k
def qlV(h:Hp)(b esz:Nat)(c:Bool)(p:Prop):Prop:=Bool.rec (motive:=λ_=>Prop) p (qas h b (λe _ _ _=>qv (Nat.beq e esz) p)) c
def cvK(orc:Orc)(q:IntKind)(x:AV)(k:AV->Prop):Prop :=
 match x with
 | .i _ n=>jH (qkO q n) (λr=>k (.i q r))
 | .sym j=>qjw (orc.cv q j) k
 | _=>False
def qlY(orc:Orc)(kd:Option IntKind)(i:AV)(p:Prop):Prop :=
 match i with
 | .s _=>(match kd with|none=>p|some _=>False)
 | .i q _=>(match kd with|some q'=>qv (decide (q'=q)) p|none=>False)
 | .sym j=>(match kd with|none=>qjw (orc.len j) (λ_=>p)|some _=>False)
 | _=>False
def qfE(orc:Orc)(x y:AV)(k:Bool->Prop):Prop :=
 match y with
 | .s c=>(match x with | .s a=>zl (eqS a c) k | .sym j=>qjw (orc.len j) (λ_=>qjw (orc.bin .eql (.sym j) (.s c)) (λv=>unB v k))|_=>False)
 | .i q n=>(match x with | .i q' m=>qv (decide (q'=q)) (zl (eqI m n) k)|_=>False)
 | _=>False
def qdl(orc:Orc)(i:AV)(es:List (AV×AV)):(Option AV->Prop)->Prop :=
 List.rec (motive:=λ_=>(Option AV->Prop)->Prop) (λk=>k none) (λe _ ih k=>qfE orc i e.1 (λr=>Bool.rec (motive:=λ_=>Prop) (ih k) (k (some e.2)) r)) es
def qik(orc:Orc)(i v:AV)(es:List (AV×AV)):(List (AV×AV)->Prop)->Prop :=
 List.rec (motive:=λ_=>(List (AV×AV)->Prop)->Prop) (λk=>k [(i,v)]) (λe es' ih k=>qfE orc i e.1 (λr=>Bool.rec (motive:=λ_=>Prop) (ih (λl=>k (e::l))) (k ((i,v)::es')) r)) es
def qfA(es:List (AV×AV))(p:Prop):Prop :=
 List.rec (motive:=λ_=>Prop) p (λe _ _=>match e.1 with | .undef=>False | .lp _=>False|_=>p) es
def qk8(h:Hp)(b:Nat)(k:List (AV×AV)->Prop):Prop :=
 h.tr.getK b (λx=>Blk.rec (motive:=λ_=>Prop) (λ_ _ _ _=>False) False (λes=>qfA es (k es)) x)
def zV(r:Loop)(ts:List (Nat×AV)):List (AV×AV):=(.lp r,.undef)::ts.map λp=>(.i .i64 (Int.ofNat p.1),p.2)
def qff(a:List UInt8)(n:Nat):List (AV×AV):=[(.undef,.s a),(.undef,.i .i64 (Int.ofNat n))]
def qyh(h:Hp)(b:Nat)(k:List UInt8->Nat->Prop):Prop :=
 h.tr.getK b (λx=>Blk.rec (motive:=λ_=>Prop) (λ_ _ _ _=>False) False (λes=>match es with
  | [(.undef,.s a),(.undef,.i .i64 (.ofNat n))]=>k a n
  | _=>False) x)
def qiG(ok:Bool)(zero:AV)(v:Option AV)(k:AV->Prop):Prop :=
 Option.rec (motive:=λ_=>Prop) (Bool.rec (motive:=λ_=>Prop) (k zero) (k (.tup [zero,.b false])) ok) (λv=>Bool.rec (motive:=λ_=>Prop) (k v) (k (.tup [v,.b true])) ok) v
def qDV(es:List (AV×AV))(k:Nat->Prop):Prop :=
 List.rec (motive:=λ_=>Nat->(Nat->Prop)->Prop) (λn k=>k n) (λ_ _ ih n k=>qE (Nat.succ n) (λm=>ih m k)) es 0 k
def jN(t:Tr AV)(b:Nat)(ps:List Nat)(p:Prop):Prop :=
 List.rec (motive:=λ_=>Prop) p (λq _ ih=>t.getK q (λy=>match y with | .ptr b' _=>qv (not (Nat.beq b' b)) ih | .pf _ _=>ih|_=>False)) ps
def qbF(t:Tr AV)(ps:List Nat)(s:AV)(p:Prop):Prop :=
 match s with | .own b _=>jN t b ps p | .sl b _ _ _ _=>jN t b ps p | .fz _ _=>p | .nils=>p | .e0=>p|_=>False
def opK(orc:Orc)(o:IOp)(t:Tr AV)(h:Hp)(k:AV->Hp->Prop):Prop :=
 match o with
 | .mov x=>evK t x (λv=>k v h)
 | .pick c x y=>evK t c (λc=>unB c (λc=>Bool.rec (motive:=λ_=>Prop) (evK t y (λv=>k v h)) (evK t x (λv=>k v h)) c))
 | .alloc z=>vg h (.cells 0 true false z) (λb h'=>k (.ptr b 0) h')
 | .box x=>evK t x (λv=>qv (qdJ v) (vg h (.cells 0 true false (cellsOf v)) (λb h'=>k (.ptr b 0) h')))
 | .build z ps=>qai t ps z (λcs=>k (.agg cs) h)
 | .buildS n z ps=>ql2 z n (λcs=>qai t ps cs (λcs=>vg h (.cells 0 true false cs) (λb h'=>k (.sl b 0 n n false) h')))
 | .load1 x=>evK t x (λp=>ldV h p (λv=>k v h))
 | .loadN n x=>evK t x (λp=>qlZ h p n (λcs=>k (.agg cs) h))
 | .store n x v=>evK t x (λp=>unP p (λb o=>evK t v (λv=>qv (qdJ v) (qiJ (cellsOf v) (λm=>qv (Nat.beq m n) (stK h b o (cellsOf v) (λh'=>k .undef h')))))))
 | .nilChk x=>evK t x (λv=>match v with | .ptr b o=>k (.ptr b o) h | .fn f a c=>k (.fn f a c) h | .map r=>k (.map r) h | .pf cs o=>k (.pf cs o) h | .yl b=>k (.yl b) h|_=>False)
 | .bin op x y=>evK t x (λx=>evK t y (λy=>x9 orc op x y (λv=>k v h)))
 | .eqB neg x y=>evK t x (λx=>evK t y (λy=>unB x (λx=>unB y (λy=>zl (xor neg (x==y)) (λr=>k (.b r) h)))))
 | .eqN neg q x=>evK t x (λx=>wA q x (λr=>zl (xor neg r) (λr=>k (.b r) h)))
 | .un op x=>evK t x (λx=>qfq op x (λv=>k v h))
 | .cvInt q x=>evK t x (λx=>cvK orc q x (λv=>k v h))
 | .fAddr off x=>evK t x (λp=>qjr p off (λv=>k v h))
 | .fld off n x=>evK t x (λx=>match x with
  | .agg cs=>Option.rec (motive:=λ_=>Prop) (qjt cs off (λv=>k v h)) (λn=>qdX off cs (λl=>qdD n l (λl=>k (.agg l) h))) n
  | _=>False)
 | .iAddrA len esz x i=>evK t x (λp=>evK t i (λi=>unN i (λi=>qv (Nat.ble (Nat.succ i) len) (qjr p (Nat.mul i esz) (λv=>k v h)))))
 | .iAddrS esz x i=>evK t x (λx=>match x with
  | .sl b o len _ _=>evK t i (λi=>unN i (λi=>qv (Nat.ble (Nat.succ i) len) (qE (Nat.add o (Nat.mul i esz)) (λo'=>k (.ptr b o') h))))
  | .fz len cs=>evK t i (λi=>unN i (λi=>qv (Nat.ble (Nat.succ i) len) (qE (Nat.mul i esz) (λo'=>k (.pf cs o') h))))
  | .own b len=>evK t i (λi=>unN i (λi=>qv (Nat.ble (Nat.succ i) len) (qE (Nat.mul i esz) (λo'=>k (.ptr b o') h))))
  | _=>False)
 | .idxA len esz agg x i=>evK t x (λx=>match x with
  | .agg cs=>evK t i (λi=>unN i (λi=>qv (Nat.ble (Nat.succ i) len) (qE (Nat.mul i esz) (λo=>Bool.rec (motive:=λ_=>Prop) (qjt cs o (λv=>k v h)) (qdX o cs (λl=>qdD esz l (λl=>k (.agg l) h))) agg))))
  | _=>False)
 | .idxS x i=>evK t x (λx=>match x with
  | .s a=>evK t i (λi=>unN i (λi=>Option.rec (motive:=λ_=>Prop) False (λc=>k (.i .u8 (Int.ofNat c.toNat)) h) (a[i]?)))
  | _=>False)
 | .slcS esz x lo hi mx=>evK t x (λx=>qbg t lo (λlo=>qbg t hi (λhi=>qbg t mx (λmx=>match x with
  | .nils=>xG 0 0 lo hi mx (λ_ _ _=>k .nils h)
  | .e0=>xG 0 0 lo hi mx (λ_ _ _=>k .e0 h)
  | .fz n cs=>xG n n lo hi mx (λl h' m=>Bool.rec (motive:=λ_=>Prop) (qdX (Nat.mul l esz) cs (λl1=>qE (h'-l) (λlen'=>qdD (Nat.mul len' esz) l1 (λl2=>k (.fz len' l2) h)))) (k .e0 h) (and mx.isSome (Nat.beq m l)))
  | .sl b o len cap loose=>xG len cap lo hi mx (λl h' m=>qE (if(loose&&mx.isNone)=false/\m=l then o else Nat.add o (Nat.mul l esz)) (λo'=>qE (h'-l) (λlen'=>qE (m-l) (λcap' =>
    qlV h b esz (loose&&mx.isNone) (k (.sl b o' len' cap' (loose&&mx.isNone)) h)))))
  | .own b n=>Option.rec (motive:=λ_=>Prop) (Nat.rec (motive:=λ_=>Prop) (xG 0 0 lo hi none (λ_ _ _=>k (.own b 0) h))
    (λn' _=>xG (Nat.succ n') (Nat.succ n') lo hi none (λl h' m=>qE (Nat.mul l esz) (λo'=>qE (h'-l) (λlen'=>qE (m-l) (λcap'=>qlV h b esz true (k (.sl b o' len' cap' true) h)))))) n)
    (λ_=>Nat.rec (motive:=λ_=>Prop) (xG 0 0 lo hi mx (λ_ _ _=>k (.own b 0) h))
    (λn' _=>xG (Nat.succ n') (Nat.succ n') lo hi mx (λl h' m=>qE (if m=l then 0 else Nat.mul l esz) (λo'=>qE (h'-l) (λlen'=>qE (m-l) (λcap'=>k (.sl b o' len' cap' false) h))))) n) mx
  | _=>False))))
 | .slcStr x lo hi=>evK t x (λx=>qbg t lo (λlo=>qbg t hi (λhi=>match x with
  | .s a=>xG a.length a.length lo hi none (λl h' _=>k (.s ((a.take h').drop l)) h)
  | _=>False)))
 | .slcA len esz x lo hi mx=>evK t x (λp=>unP p (λb o=>qbg t lo (λlo=>qbg t hi (λhi=>qbg t mx (λmx =>
   xG len len lo hi mx (λl h' m=>qE (if m=l then o else Nat.add o (Nat.mul l esz)) (λo'=>qE (h'-l) (λlen'=>qE (m-l) (λcap'=>k (.sl b o' len' cap' false) h))))))))) 
 | .ext x i=>evK t x (λx=>match x with | .tup cs=>qjt cs i (λv=>k v h)|_=>False)
 | .mkF f a c=>qaq t a (λa=>qaq t c (λc=>k (.fn f a c) h))
 | .mkS _ bytes z len cap=>evK t len (λlen=>evK t cap (λcap=>unN len (λl=>unN cap (λc=>qv (Nat.ble l c) (qv (Nat.ble c qe) (qv (Nat.ble (Nat.mul bytes c) qe) (ql2 z c (λcs=>vg h (.cells 0 true false cs) (λb h'=>k (.sl b 0 l c false) h')))))))))
 | .len str x=>evK t x (λx=>match x with
  | .nils=>Bool.rec (motive:=λ_=>Prop) (k (.i .i64 0) h) False str
  | .e0=>Bool.rec (motive:=λ_=>Prop) (k (.i .i64 0) h) False str
  | .nz=>Bool.rec (motive:=λ_=>Prop) (k (.i .i64 0) h) False str
  | .fz n _=>Bool.rec (motive:=λ_=>Prop) (k (.i .i64 (Int.ofNat n)) h) False str
  | .own _ n=>Bool.rec (motive:=λ_=>Prop) (k (.i .i64 (Int.ofNat n)) h) False str
  | .sl _ _ n _ _=>Bool.rec (motive:=λ_=>Prop) (k (.i .i64 (Int.ofNat n)) h) False str
  | .s a=>Bool.rec (motive:=λ_=>Prop) False (qE a.length (λn=>k (.i .i64 (Int.ofNat n)) h)) str
  | .sym j=>Bool.rec (motive:=λ_=>Prop) False (qjw (orc.len j) (λv=>k v h)) str
  | _=>False)
 | .app esz bytes c s x=>evK t s (λs=>evK t x (λx=>qiH h esz bytes c s x k))
 | .max x y=>evK t x (λx=>evK t y (λy=>unI x (λq n=>unI y (λ_ m=>Bool.rec (motive:=λ_=>Prop) (k (.i q n) h) (k (.i q m) h) (ltI n m)))))
 | .clear z x=>evK t x (λx=>match x with
  | .nils=>k (.tup []) h
  | .sl b o n _ _=>Nat.rec (motive:=λ_=>Prop) (k (.tup []) h) (λ_ _=>ql2 z n (λcs=>stK h b o cs (λh'=>k (.tup []) h'))) n
  | _=>False)
 | .mkM=>vg h (.map []) (λb h'=>k (.map b) h')
 | .lookM kd ok zero x i=>evK t x (λx=>evK t i (λi=>qlY orc kd i (match x with
  | .nilm=>qiG ok zero none (λv=>k v h)
  | .map r=>qk8 h r (λes=>qdl orc i es (λv=>qiG ok zero v (λv=>k v h)))
  | _=>False)))
 | .updM kd x i v=>evK t x (λx=>evK t i (λi=>evK t v (λv=>qlY orc kd i (match x with
  | .map r=>qk8 h r (λes=>qik orc i v es (λes'=>qd9 h r (.map es') (λh'=>k .undef h')))
  | _=>False))))
 | .min x y=>evK t x (λx=>evK t y (λy=>unI x (λq n=>unI y (λ_ m=>Bool.rec (motive:=λ_=>Prop) (k (.i q n) h) (k (.i q m) h) (ltI m n)))))
 | .storeD n x v ps=>evK t x (λp=>unP p (λb o=>jN t b ps (evK t v (λv=>qv (qdJ v) (qiJ (cellsOf v) (λm=>qv (Nat.beq m n) (stK h b o (cellsOf v) (λh'=>k .undef h'))))))))
 | .appD esz bytes s x ps=>evK t s (λs=>evK t x (λx=>qbF t ps s (qiH h esz bytes true s x k)))
 | .no=>False
def qap(t:Tr AV)(d:Option Nat)(v:AV)(k:Tr AV->Prop):Prop:=Option.rec (motive:=λ_=>Prop) (k t) (λn=>t.setK n v k) d
def qqi(l:List AV)(n:Nat)(t:Tr AV)(k:Tr AV->Prop):Prop :=
 List.rec (motive:=λ_=>Nat->Tr AV->(Tr AV->Prop)->Prop) (λ_ t k=>k t) (λv _ ih n t k=>t.setK n v (λt'=>qE (Nat.succ n) (λn'=>ih n' t' k))) l n t k
def qa6(t:Tr AV)(h:Hp)(rs:List RV)(k:List AV->Prop):Prop :=
 List.rec (motive:=λ_=>(List AV->Prop)->Prop) (λk=>k []) (λr _ ih k=>match r with
  | .tmp n=>t.getK n (λv=>ih (λvs=>k (v::vs)))
  | .cell n size agg=>t.getK n (λp=>unP p (λb o=>Bool.rec (motive:=λ_=>Prop) (ldK h b o (λv=>ih (λvs=>k (v::vs)))) (qfG h b o size (λcs=>ih (λvs=>k (.agg cs::vs)))) agg))) rs k
def qaD:List AV->AV
 | [v]=>v
 | vs=>.tup vs
abbrev zZ:=Nat->List AV->Hp->(AV->Hp->Prop)->Prop
def qie(F:Hp->(AV->Hp->Prop)->Prop)(h:Hp)(k:AV->Hp->Prop):Prop :=
 Hp.rec (motive:=λ_=>Prop) (λsz fl tr=>F ⟨sz,sz,tr⟩ (λv h'=>Hp.rec (motive:=λ_=>Prop) (λsz' _ tr'=>k v ⟨sz',fl,tr'⟩) h')) h
def wr:RK->Bool
 | .op (.store _ _ _) | .op (.app _ _ _ _ _) | .op (.clear _ _) | .op (.updM _ _ _ _) | .op (.storeD _ _ _ _) | .op (.appD _ _ _ _ _)=>true
 | .callW _ _ | .callVW _ _=>true
 | _=>false
def qdB(orc:Orc)(C:zZ)(r:RK)(t:Tr AV)(h:Hp)(k:AV->Hp->Prop):Prop :=
 match r with
 | .op o=>opK orc o t h k
 | .callF f args=>qaq t args (λvs=>C (Nat.succ f) vs h k)
 | .callV x args=>evK t x (λg=>qaq t args (λvs=>match g with | .fn f a c=>C (Nat.succ f) (a++(vs++c)) h k | .yl b=>C 0 (.yl b::vs) h k|_=>False))
 | .callW f args=>qaq t args (λvs=>C (Nat.succ f) vs h k)
 | .callVW x args=>evK t x (λg=>qaq t args (λvs=>match g with | .fn f a c=>C (Nat.succ f) (a++(vs++c)) h k | .yl b=>C 0 (.yl b::vs) h k|_=>False))
def qjB(orc:Orc)(draw:Bool)(C:zZ)(r:RK)(t:Tr AV)(h:Hp)(k:AV->Hp->Prop):Prop :=
 Bool.rec (motive:=λ_=>Prop) (qdB orc C r t h k) (qie (qdB orc C r t) h k) (and draw (not (wr r)))
def qa1(t:Tr AV)(g:Option (Nat×Bool))(k:Bool->Prop):Prop :=
 Option.rec (motive:=λ_=>Prop) (k true) (λg=>t.getK g.1 (λv=>match v with
  | .b x=>zl (x==g.2) k
  | .tup _=>k false
  | _=>False)) g
def qkz(orc:Orc)(draw:Bool)(C:zZ)(ops:List ROp)(Q:Tr AV->Hp->Prop):Tr AV->Hp->Prop :=
 List.rec (motive:=λ_=>Tr AV->Hp->Prop) Q (λr _ rest t h=>ROp.rec (motive:=λ_=>Prop) (λdst k guard=>qa1 t guard (λgo=>Bool.rec (motive:=λ_=>Prop)
  (qap t dst (.tup []) (λt'=>rest t' h)) (qjB orc draw C k t h (λv h'=>qap t dst v (λt'=>rest t' h'))) go)) r) ops
def tab:Nat->Option (Array Value):=λ_=>none
class TabOk (w:World):Prop where
 ok:∀k a,tab k=some a->∃ty fz,w.heap[k]?=some (.cells a ty fz)
instance {w:World}:TabOk w:=⟨λ_ _ h=>by cases h⟩
def L1{α:Type}(G:(α->Prop)->Prop):Prop:=∀k,G k->∃x,k x/\∀k',k' x->G k'
def L2{α β:Type}(G:(α->β->Prop)->Prop):Prop:=∀k,G k->∃x y,k x y/\∀k',k' x y->G k'
def L3{α β γ:Type}(G:(α->β->γ->Prop)->Prop):Prop:=∀k,G k->∃x y z,k x y z/\∀k',k' x y z->G k'
def L4{α β γ δ:Type}(G:(α->β->γ->δ->Prop)->Prop):Prop:=∀k,G k->∃x y z u,k x y z u/\∀k',k' x y z u->G k'
section
variable {α β γ δ ε:Type}
def L1.ret(x:α):L1 (λk=>k x):=λ_ h=>Ag
def L2.ret(x:α)(y:β):L2 (λk=>k x y):=λ_ h=>Ag
def L3.ret(x:α)(y:β)(z:γ):L3 (λk=>k x y z):=λ_ h=>Ag
def L1.no:L1 (λ(_:α->Prop)=>False):=λ_ h=>h.elim
def L2.no:L2 (λ(_:α->β->Prop)=>False):=λ_ h=>h.elim
def L3.no:L3 (λ(_:α->β->γ->Prop)=>False):=λ_ h=>h.elim
def L1.b1{G:(α->Prop)->Prop}{F:α->(β->Prop)->Prop}(hG:L1 G)(hF:∀x,L1 (F x)):L1 (λk=>G (λx=>F x k)):=λ_ h=>by
 obtain⟨x,h1,h2⟩:=hG _ h;obtain⟨y,h3,h4⟩:=hF x _ h1;exact Ag
def L1.b2{G:(α->Prop)->Prop}{F:α->(β->γ->Prop)->Prop}(hG:L1 G)(hF:∀x,L2 (F x)):L2 (λk=>G (λx=>F x k)):=λ_ h=>by
 obtain⟨x,h1,h2⟩:=hG _ h;obtain⟨y,z,h3,h4⟩:=hF x _ h1;exact Ag
def L1.b3{G:(α->Prop)->Prop}{F:α->(β->γ->δ->Prop)->Prop}(hG:L1 G)(hF:∀x,L3 (F x)):L3 (λk=>G (λx=>F x k)):=λ_ h=>by
 obtain⟨x,h1,h2⟩:=hG _ h;obtain⟨y,z,u,h3,h4⟩:=hF x _ h1;exact Ag
def L2.b1{G:(α->β->Prop)->Prop}{F:α->β->(γ->Prop)->Prop}(hG:L2 G)(hF:∀x y,L1 (F x y)):L1 (λk=>G (λx y=>F x y k)):=λ_ h=>by
 obtain⟨x,y,h1,h2⟩:=hG _ h;obtain⟨z,h3,h4⟩:=hF x y _ h1;exact Ag
def L2.b2{G:(α->β->Prop)->Prop}{F:α->β->(γ->δ->Prop)->Prop}(hG:L2 G)(hF:∀x y,L2 (F x y)):L2 (λk=>G (λx y=>F x y k)):=λ_ h=>by
 obtain⟨x,y,h1,h2⟩:=hG _ h;obtain⟨z,u,h3,h4⟩:=hF x y _ h1;exact Ag
def L3.b2{G:(α->β->ε->Prop)->Prop}{F:α->β->ε->(γ->δ->Prop)->Prop}(hG:L3 G)(hF:∀x y e,L2 (F x y e)):L2 (λk=>G (λx y e=>F x y e k)):=λ_ h=>by
 obtain⟨x,y,e,h1,h2⟩:=hG _ h;obtain⟨z,u,h3,h4⟩:=hF x y e _ h1;exact Ag
def L4.b1{ζ:Type}{G:(α->β->γ->δ->Prop)->Prop}{F:α->β->γ->δ->(ζ->Prop)->Prop}(hG:L4 G)(hF:∀x y z u,L1 (F x y z u)):L1 (λk=>G (λx y z u=>F x y z u k)):=λ_ h=>by
 obtain⟨x,y,z,u,h1,h2⟩:=hG _ h;obtain⟨v,h3,h4⟩:=hF x y z u _ h1;exact Ag
def L4.b2{ζ η:Type}{G:(α->β->γ->δ->Prop)->Prop}{F:α->β->γ->δ->(ζ->η->Prop)->Prop}(hG:L4 G)(hF:∀x y z u,L2 (F x y z u)):L2 (λk=>G (λx y z u=>F x y z u k)):=λ_ h=>by
 obtain⟨x,y,z,u,h1,h2⟩:=hG _ h;obtain⟨v,v',h3,h4⟩:=hF x y z u _ h1;exact Ag
def L1.wh(x:Bool){F:(α->Prop)->Prop}(hF:L1 F):L1 (λk=>qv x (F k)):=by
 cases x
 .exact L1.no
 .exact hF
def L2.wh(x:Bool){F:(α->β->Prop)->Prop}(hF:L2 F):L2 (λk=>qv x (F k)):=by
 cases x
 .exact L2.no
 .exact hF
def L3.wh{α β γ:Type}(x:Bool){F:(α->β->γ->Prop)->Prop}(hF:L3 F):L3 (λk=>qv x (F k)):=by
 cases x
 .exact L3.no
 .exact hF
def L2.br(x:Bool){F G:(α->β->Prop)->Prop}(hF:L2 F)(hG:L2 G):L2 (λk=>Bool.rec (motive:=λ_=>Prop) (F k) (G k) x):=by
 cases x<;>simp_all
def L1.br(x:Bool){F G:(α->Prop)->Prop}(hF:L1 F)(hG:L1 G):L1 (λk=>Bool.rec (motive:=λ_=>Prop) (F k) (G k) x):=by
 cases x<;>simp_all
end
theorem zy(n:Nat):L1 (qE n):=λk h=>by grind[qO]
def qjX(n:Int):L1 (jH n):=λk h=>by grind[z6]
def xT(n:Bool):L1 (zl n):=λk h=>by grind[zi]
def qmX{α:Type}(t:Tr α)(n:Nat):L1 (t.getK n):=λk h=>by
 grind[Tr.getK_iff]
def qpX{α:Type}(t:Tr α)(n:Nat)(x:α):L1 (t.setK n x):=λk h=>by grind[Tr.setK_iff]
theorem qju(l:List AV)(n:Nat):L1 (qjt l n):=λk h=>by
 grind[wn]
def qfp(n:Nat)(l:List AV):L1 (qdD n l):=λk h=>by
 grind[xe]
def qgw(n:Nat)(l:List AV):L1 (qdX n l):=λk h=>by
 grind[xo]
def qoY(vs:List AV)(n:Nat)(l:List AV):L1 (wH vs n l):=λk h=>by
 grind[vj]
def qr9(zy bs:List AV):L1 (qnY zy bs):=λk h=>by grind[qa7]
def qnc(l:List AV):L1 (qiJ l):=λk h=>by grind[ka]
def qnu(z:List AV)(n:Nat):L1 (ql2 z n):=λk h=>by grind[qeN]
def qfY(h:Hp)(b:Nat):L4 (qas h b):=λk hk=>by
 obtain⟨v,h1,h2⟩:=qmX _ _ _ hk;cases v with
 | cells e w a cs=>exact⟨e,w,a,cs,h1,λk' hk'=>h2 _ hk'⟩
 | dead=>exact Ae
 | map=>exact Ae
def qfI(h:Hp)(x:Blk):L2 (vg h x):=λk hk=>by
 cases h with
 | mk sz fl tr => 
  obtain⟨t',h1,h2⟩:=qpX tr sz x _ hk;obtain⟨m,h3,h4⟩:=zy _ _ h1;exact⟨_,_,h3,λk' hk'=>h2 _ (h4 _ hk')⟩
theorem qpJ(h:Hp)(b:Nat)(x:Blk):L1 (qd9 h b x):=by
 cases h with
 | mk sz fl tr=>exact L1.br _ L1.no (L1.b1 (qpX tr b x) λt'=>L1.ret _)
def qDT(h:Hp)(b off:Nat):L1 (ldK h b off):=L4.b1 (qfY h b) (by grind[qju])
def qna(h:Hp)(b off n:Nat):L1 (qfG h b off n):=L4.b1 (qfY h b) λ_ _ _ cs=>L1.b1 (qgw off cs) λl=>qfp n l
def qrK(h:Hp)(b off:Nat)(vs:List AV):L1 (stK h b off vs) :=
 L4.b1 (qfY h b) λe w a cs=>L1.br _ L1.no (L1.br _ L1.no (L1.b1 (qoY vs off cs) (by grind[qpJ])))
def qH(t:Tr AV)(x:O):L1 (evK t x):=by
 cases x
 .exact qmX _ _
 .exact L1.ret _
def qjh(t:Tr AV):∀xs,L1 (qaq t xs)
 | []=>L1.ret _
 | x::xs=>by
  show L1 (λk=>evK t x (λv=>qaq t xs (λvs=>k (v::vs))))
  exact L1.b1 (qH t x) λv=>L1.b1 (qjh t xs) λvs=>L1.ret _
def qkL(v:AV):L1 (unB v):=by cases v<;>first|exact L1.no|exact L1.ret _
def qlT(v:AV):L2 (unI v):=by cases v<;>first|exact L2.no|exact L2.ret _ _
def qhi(v:AV):L1 (unN v):=by
 cases v<;>try exact L1.no
 rename_i q n;cases n
 .exact L1.ret _
 .exact L1.no
def qua(v:AV):L2 (unP v):=by cases v<;>first|exact L2.no|exact L2.ret _ _
def qfJ(t:Tr AV)(x:Option O):L1 (qbg t x):=by
 cases x
 .exact L1.ret _
 .rename_i x;show L1 (λk=>evK t x (λv=>k (some v)))
  simp_all[L1.b1,qH,L1.ret]
theorem qh9(r:Option AV):L1 (qjw r):=by
 cases r
 .exact L1.no
 .exact L1.ret _
def qr4(x:Option AV)(d top:Nat):L1 (qjM x d top):=by
 cases x
 .exact L1.ret _
 .rename_i v;show L1 (λk=>unN v (λn=>qv (Nat.ble n top) (qE n k)))
  exact L1.b1 (qhi _) λn=>L1.wh _ (zy n)
def qb1(len cap:Nat)(lo hi mx:Option AV):L3 (xG len cap lo hi mx):=by
 refine L1.b3 (qr4 mx cap cap) λm=>?_
 cases hi with
 | none =>
  cases mx with
  | none =>
   simp_all[L3.wh,L1.b3,qr4,L3.ret]
  | some _=>exact L3.no
 | some v =>
  refine L1.b3 (qhi v) λh=>?_
  simp_all[L3.wh,L1.b3,qr4,L3.ret]
def qih(h:Hp)(esz:Nat)(x:AV):L2 (qc5 h esz x):=by
 unfold qc5;cases x<;>dsimp only<;>try exact L2.no
 all_goals simp_all[L2.wh,L1.b2,L2.ret,qna,qfp]
def qsK:∀cs,L1 (qkI cs)
 | []=>L1.ret _
 | v::cs=>by
  cases v<;>try exact L1.no
  rename_i q n;cases q<;>try exact L1.no
  cases n
  .rename_i m;show L1 (λk=>qkI cs (λl=>k (UInt8.ofNat m::l)))
   exact L1.b1 (qsK cs) λl=>L1.ret _
  .exact L1.no
def qjU(t:Tr AV):∀ps l,L1 (qai t ps l)
 | [],l=>L1.ret l
 | p::ps,l=>by
  show L1 (λk=>evK t p.2.2 (λv=>qv (qdJ v) (qE p.1 (λoff=>qiJ (cellsOf v) (λn=>qv (Nat.beq n p.2.1) (wH (cellsOf v) off l (λl'=>qai t ps l' k)))))))
  exact L1.b1 (qH t p.2.2) λv=>L1.wh _ (L1.b1 (zy p.1) λoff=>L1.b1 (qnc _) λn=>L1.wh _ (L1.b1 (qoY _ _ _) λl'=>qjU t ps l'))
def qvd(op:BinOp)(q:IntKind)(x y:Int):L1 (x4 op q x y):=by
 unfold x4;cases op<;>dsimp only<;>first|exact L1.no|exact L1.b1 (qjX _) λr=>L1.ret _|exact L1.b1 (xT _) λr=>L1.b1 (xT _) λr=>L1.ret _|exact L1.b1 (xT _) λr=>L1.ret _|exact L1.br _ (L1.b1 (qjX _) λr=>L1.ret _) L1.no
def qzU(op:BinOp)(q:IntKind)(x y:Int):L1 (qll op q x y):=by
 cases y with
 | negSucc=>exact L1.no
 | ofNat m =>
  unfold qll;refine L1.b1 (by grind[zy]) λn=>?_
  cases op<;>dsimp only<;>first|exact L1.no|exact L1.b1 (qjX _) λr=>L1.ret _
def qv6(op:BinOp)(x y:List UInt8):L1 (qct op x y):=by
 unfold qct;cases op<;>dsimp only<;>first|exact L1.no|exact L1.br _ L1.no (L1.ret _)|exact L1.b1 (xT _) λr=>L1.b1 (xT _) λr=>L1.b1 (xT _) λr=>L1.ret _|exact L1.b1 (xT _) λr=>L1.b1 (xT _) λr=>L1.ret _|exact L1.b1 (xT _) λr=>L1.ret _
theorem qDI(orc:Orc)(q:IntKind)(x:AV):L1 (cvK orc q x):=by
 unfold cvK;cases x<;>dsimp only<;>try exact L1.no
 all_goals simp_all[L1.ret,qh9]
theorem qwD(orc:Orc)(op:BinOp)(x y:AV):L1 (x9 orc op x y):=by
 unfold x9;cases x<;>dsimp only<;>try exact L1.no
 .cases y<;>dsimp only<;>try exact L1.no
  .cases op<;>dsimp only<;>first|exact qzU _ _ _ _|exact L1.wh _ (qvd _ _ _ _)
  .exact qh9 _
 .cases y<;>dsimp only<;>try exact L1.no
  .exact qv6 _ _ _
  .exact qh9 _
 grind[qh9]
def qq8(q:NK)(x:AV):L1 (wA q x):=by unfold wA;cases q<;>cases x<;>dsimp only<;>first|exact L1.no|exact L1.ret _|exact L1.wh _ (L1.ret _)
def quC(q:PK)(x y:AV):L1 (qb3 q x y):=by
 unfold qb3;cases q<;>cases x<;>dsimp only<;>first|exact L1.no|(cases y<;>dsimp only<;>first|exact L1.no|exact L1.wh _ (xT _)|exact xT _)
def qsa:∀qs xs ys,L1 (qdf qs xs ys)
 | [],_,_=>L1.ret _
 | q::qs,[],_=>L1.no
 | q::qs,_::_,[]=>L1.no
 | q::qs,x::xs,y::ys=>by
  show L1 (λk=>qb3 q x y (λe=>Bool.rec (motive:=λ_=>Prop) (k false) (qdf qs xs ys k) e))
  exact L1.b1 (quC q x y) λe=>L1.br e (L1.ret _) (qsa qs xs ys)
def qub(op:UnOp)(x:AV):L1 (qfq op x):=by
 unfold qfq;cases op<;>cases x<;>dsimp only<;>first|exact L1.no|exact L1.b1 (qjX _) λr=>L1.ret _|simp_all[L1.ret]
theorem qr3(h:Hp)(esz bytes:Nat)(c:Bool)(s x:AV):L2 (qiH h esz bytes c s x):=by
 unfold qiH;refine L2.b2 (qih h esz x) λn new=>?_
 cases s<;>dsimp only<;>try exact L2.no
 .exact Il
 .rename_i b o len cap loose
  refine L2.br _ (L1.b2 (zy _) λneed=>L2.br _ (L2.wh _ (L2.wh _ (L1.b2 (qna _ _ _ _) λold=>L1.b2 (qr9 _ _) λcs=>L2.b2 (qfI _ _) λb' h'=>L2.ret _ _))) ?_)
   (L1.b2 (zy _) λneed=>L2.wh _ (L2.wh _ (L2.wh _ (L4.b2 (qfY _ _) λe w a ys=>L2.wh _ (L2.wh _ (L2.wh _ (L2.wh _ (L1.b2 (qnc _) λq=>L2.wh _ (L1.b2 (qgw _ _) λzs=>L1.b2 (qr9 _ _) λcs'=>L1.b2 (qpJ _ _ _) λh1=>L2.b2 (qfI _ _) λb' h'=>L2.ret _ _)))))))))
  cases n
  .exact L2.ret _ _
  simp_all[L1.b2,qrK,L2.ret]
 .cases n
  .exact L2.ret _ _
  .exact L2.no
 .exact Il
 .exact L1.b2 (zy _) λneed=>L2.wh _ (L2.wh _ (L2.wh _ (L4.b2 (qfY _ _) λe w a ys=>L2.wh _ (L2.wh _ (L2.wh _ (L2.wh _ (L1.b2 (qnc _) λq=>L2.wh _ (L1.b2 (qr9 _ _) λcs'=>L1.b2 (qpJ _ _ _) λh1=>L2.b2 (qfI _ _) λb' h'=>L2.ret _ _))))))))
def qJ8(h:Hp)(p:AV):L1 (ldV h p):=by
 unfold ldV;cases p<;>dsimp only<;>first|exact L1.no|exact qDT _ _ _|grind[qju]
def qF3(h:Hp)(p:AV)(n:Nat):L1 (qlZ h p n):=by
 unfold qlZ;cases p<;>dsimp only<;>first|exact L1.no|exact qna _ _ _ _|simp_all[L1.b1,qgw,qfp]
def qpG(p:AV)(n:Nat):L1 (qjr p n):=by
 unfold qjr;cases p<;>dsimp only<;>first|exact L1.no|exact L1.b1 (zy _) λo=>L1.ret _
def qK9(h:Hp)(esz:Nat)(d s:AV):L2 (qok h esz d s):=by
 unfold qok;cases d<;>dsimp only<;>try exact L2.no
 .simp_all[L2.b2,qih,L2.ret]
 .exact L2.b2 (qih _ _ _) λ_ _=>L1.b2 (zy _) λm=>L1.b2 (qfp _ _) λcs=>L1.b2 (qrK _ _ _ _) λh'=>L2.ret _ _
def qxz(h:Hp)(b esz:Nat)(c:Bool)(v:AV)(h':Hp):L2 (λk:AV->Hp->Prop=>qlV h b esz c (k v h')):=by
 cases c
 .exact L2.ret _ _
 .exact L4.b2 (qfY h b) λe _ _ _=>L2.wh _ (L2.ret _ _)
def qqf(t:Tr AV)(b:Nat)(ps:List Nat){G:(AV->Hp->Prop)->Prop}(hG:L2 G):L2 (λk=>jN t b ps (G k)):=by
 induction ps with
 | nil=>exact hG
 | cons q ps ih =>
  show L2 (λk=>evK t (.t q) (λy=>match y with | .ptr b' _=>qv (not (Nat.beq b' b)) (jN t b ps (G k)) | .pf _ _=>jN t b ps (G k)|_=>False))
  exact L1.b2 (qH t (.t q)) λy=>by cases y<;>dsimp only<;>first|exact L2.no|exact L2.wh _ ih|exact ih
def qzR(t:Tr AV)(ps:List Nat)(s:AV){G:(AV->Hp->Prop)->Prop}(hG:L2 G):L2 (λk=>qbF t ps s (G k)):=by
 unfold qbF;cases s<;>dsimp only<;>first|exact L2.no|exact hG|exact qqf _ _ _ hG
def qyl(orc:Orc)(kd:Option IntKind)(i:AV){G:(AV->Hp->Prop)->Prop}(hG:L2 G):L2 (λk=>qlY orc kd i (G k)):=by
 unfold qlY;cases i<;>dsimp only<;>try exact L2.no
 .cases kd<;>dsimp only
  all_goals simp_all[L2.no,L2.wh]
 .cases kd<;>dsimp only
  all_goals simp_all[L2.no]
 .cases kd<;>dsimp only
  all_goals simp_all[L1.b2,qh9,L2.no]
def qra(orc:Orc)(x y:AV):L1 (qfE orc x y):=by
 unfold qfE;cases y<;>dsimp only<;>try exact L1.no
 .cases x<;>dsimp only<;>try exact L1.no
  exact L1.wh _ (xT _)
 .cases x<;>dsimp only<;>try exact L1.no
  .exact xT _
  simp_all[L1.b1,qh9,qkL]
def qtb(orc:Orc)(i:AV):∀es,L1 (qdl orc i es)
 | []=>L1.ret _
 | e::es=>by
  show L1 (λk=>qfE orc i e.1 (λr=>Bool.rec (motive:=λ_=>Prop) (qdl orc i es k) (k (some e.2)) r))
  exact L1.b1 (qra orc i e.1) λr=>L1.br r (qtb orc i es) (L1.ret _)
def qAc(orc:Orc)(i v:AV):∀es,L1 (qik orc i v es)
 | []=>L1.ret _
 | e::es=>by
  show L1 (λk=>qfE orc i e.1 (λr=>Bool.rec (motive:=λ_=>Prop) (qik orc i v es (λl=>k (e::l))) (k ((i,v)::es)) r))
  exact L1.b1 (qra orc i e.1) λr=>L1.br r (L1.b1 (qAc orc i v es) λl=>L1.ret _) (L1.ret _)
theorem qm5{es:List (AV×AV)}{p:Prop}:qfA es p↔(∀e,es.head?=some e->e.1≠.undef/\∀r,e.1≠.lp r)/\p:=by
 unfold qfA;cases es<;>grind
def qyH(h:Hp)(b:Nat):L1 (qk8 h b):=by
 unfold qk8;refine λk hk=>?_
 obtain⟨x,h1,h2⟩:=(Tr.getK_iff _ _ _).1 hk;cases x<;>grind[qm5,Tr.getK_iff]
theorem qvk{h:Hp}{b:Nat}{k:List UInt8->Nat->Prop}:qyh h b k↔∃a n,h.tr.get b=some (.map (qff a n))/\k a n:=by
 unfold qyh;rw[Tr.getK_iff];constructor
 .rintro⟨x,h1,h2⟩;cases x with
  | cells=>exact Ae
  | dead=>exact Ae
  | map es =>
   dsimp only at h2;split at h2
   .exact⟨_,_,h1,h2⟩
   exact Ae
 .rintro⟨a,n,h1,h2⟩;exact⟨_,h1,h2⟩
def qLg(h:Hp)(b:Nat):L2 (qyh h b):=λk hk=>by
 grind[qvk]
def qwv(ok:Bool)(zero:AV)(v:Option AV):L1 (qiG ok zero v):=by
 unfold qiG;cases v<;>cases ok<;>exact L1.ret _
theorem qvm(l:List (AV×AV))(k:Nat->Prop):qDV l k↔k l.length:=by
 have key:∀(l:List (AV×AV)) (n:Nat),(List.rec (motive:=λ_=>Nat->(Nat->Prop)->Prop) (λn k=>k n) (λ_ _ ih n k=>qE (Nat.succ n) (λm=>ih m k)) l n k:Prop)↔k (l.length+n):=by
  intro l
  induction l with
  | nil=>exact Ae
  | cons x xs ih =>
   grind[qO]
 exact key l 0
def qLi(es:List (AV×AV)):L1 (qDV es):=λk h=>by grind[qvm]
def qKx(orc:Orc)(o:IOp)(t:Tr AV)(h:Hp):L2 (opK orc o t h):=by
 unfold opK;cases o<;>dsimp only
 case mov x=>exact L1.b2 (qH t x) λv=>L2.ret _ _
 case pick c x y=>exact L1.b2 (qH t c) λc=>L1.b2 (qkL c) λc=>L2.br _ (L1.b2 (qH t y) λv=>L2.ret _ _) (L1.b2 (qH t x) λv=>L2.ret _ _)
 case alloc z=>exact L2.b2 (qfI _ _) λb h'=>L2.ret _ _
 case box x=>exact L1.b2 (qH t x) λv=>L2.wh _ (L2.b2 (qfI _ _) λb h'=>L2.ret _ _)
 case build z ps=>exact L1.b2 (qjU t ps z) λcs=>L2.ret _ _
 case buildS n z ps=>exact L1.b2 (qnu z n) λcs=>L1.b2 (qjU t ps cs) λcs=>L2.b2 (qfI _ _) λb h'=>L2.ret _ _
 case load1 x=>exact L1.b2 (qH t x) λp=>L1.b2 (qJ8 _ _) λv=>L2.ret _ _
 case loadN n x=>exact L1.b2 (qH t x) λp=>L1.b2 (qF3 _ _ _) λv=>L2.ret _ _
 case store n x v=>exact L1.b2 (qH t x) λp=>L2.b2 (qua p) λb o=>L1.b2 (qH t v) λv=>L2.wh _ (L1.b2 (qnc _) λm=>L2.wh _ (L1.b2 (qrK _ _ _ _) λh'=>L2.ret _ _))
 case nilChk x=>exact L1.b2 (qH t x) λv=>by cases v<;>dsimp only<;>first|exact L2.no|exact L2.ret _ _
 case bin op x y=>exact L1.b2 (qH t x) λx=>L1.b2 (qH t y) λy=>L1.b2 (qwD orc op x y) λv=>L2.ret _ _
 case eqB neg x y=>exact L1.b2 (qH t x) λx=>L1.b2 (qH t y) λy=>L1.b2 (qkL x) λx=>L1.b2 (qkL y) λy=>L1.b2 (xT _) λr=>L2.ret _ _
 case eqN neg q x=>exact L1.b2 (qH t x) λx=>L1.b2 (qq8 q x) λr=>L1.b2 (xT _) λr=>L2.ret _ _
 case un op x=>exact L1.b2 (qH t x) λx=>L1.b2 (qub op x) λv=>L2.ret _ _
 case cvInt q x=>exact L1.b2 (qH t x) λx=>L1.b2 (qDI orc q x) λr=>L2.ret _ _
 case fAddr off x=>exact L1.b2 (qH t x) λp=>L1.b2 (qpG _ _) λv=>L2.ret _ _
 case fld off n x =>
  refine L1.b2 (qH t x) λx=>?_
  cases x<;>dsimp only<;>try exact L2.no
  cases n
  .exact L1.b2 (qju _ _) λv=>L2.ret _ _
  .exact L1.b2 (qgw _ _) λl=>L1.b2 (qfp _ _) λl=>L2.ret _ _
 case iAddrA len esz x i=>exact L1.b2 (qH t x) λp=>L1.b2 (qH t i) λi=>L1.b2 (qhi i) λi=>L2.wh _ (L1.b2 (qpG _ _) λv=>L2.ret _ _)
 case iAddrS esz x i =>
  refine L1.b2 (qH t x) λx=>?_
  cases x<;>dsimp only<;>try exact L2.no
  all_goals exact L1.b2 (qH t i) λi=>L1.b2 (qhi i) λi=>L2.wh _ (L1.b2 (zy _) λo'=>L2.ret _ _)
 case idxA len esz agg x i =>
  refine L1.b2 (qH t x) λx=>?_
  cases x<;>dsimp only<;>try exact L2.no
  exact L1.b2 (qH t i) λi=>L1.b2 (qhi i) λi=>L2.wh _ (L1.b2 (zy _) λo=>L2.br _ (L1.b2 (qju _ _) λv=>L2.ret _ _) (L1.b2 (qgw _ _) λl=>L1.b2 (qfp _ _) λl=>L2.ret _ _))
 case idxS x i =>
  refine L1.b2 (qH t x) λx=>?_
  cases x<;>dsimp only<;>try exact L2.no
  rename_i s;refine L1.b2 (qH t i) λi=>L1.b2 (qhi i) λi=>?_
  cases s[i]?
  .exact L2.no
  .exact L2.ret _ _
 case slcS esz x lo hi mx =>
  refine L1.b2 (qH t x) λx=>L1.b2 (qfJ t lo) λlo=>L1.b2 (qfJ t hi) λhi=>L1.b2 (qfJ t mx) λmx=>?_
  cases x<;>dsimp only<;>try exact L2.no
  .exact Cr
  .exact Ee
  .exact L3.b2 (qb1 _ _ _ _ _) λl h' m=>L2.br _ (L1.b2 (qgw _ _) λl1=>L1.b2 (zy _) λlen'=>L1.b2 (qfp _ _) λl2=>L2.ret _ _) (L2.ret _ _)
  .exact Cr
  .rename_i b n;cases mx with
   | some _ =>
    cases n with
    | zero=>exact Cr
    | succ n=>exact L3.b2 (qb1 _ _ _ _ _) λl h' m=>L1.b2 (zy _) λo'=>L1.b2 (zy _) λlen'=>L1.b2 (zy _) λcap'=>L2.ret _ _
   | none =>
    cases n with
    | zero=>exact Cr
    | succ n=>exact Ee
 case slcStr x lo hi =>
  refine L1.b2 (qH t x) λx=>L1.b2 (qfJ t lo) λlo=>L1.b2 (qfJ t hi) λhi=>?_
  cases x<;>dsimp only<;>try exact L2.no
  exact Cr
 case slcA len esz x lo hi mx =>
  exact L1.b2 (qH t x) λp=>L2.b2 (qua p) λb o=>L1.b2 (qfJ t lo) λlo=>L1.b2 (qfJ t hi) λhi=>L1.b2 (qfJ t mx) λmx =>
   L3.b2 (qb1 _ _ _ _ _) λl h' m=>L1.b2 (zy _) λo'=>L1.b2 (zy _) λlen'=>L1.b2 (zy _) λcap'=>L2.ret _ _
 case ext x i =>
  refine L1.b2 (qH t x) λx=>?_
  cases x<;>dsimp only<;>try exact L2.no
  exact L1.b2 (qju _ _) λv=>L2.ret _ _
 case mkF f a c=>exact L1.b2 (qjh t a) λa=>L1.b2 (qjh t c) λc=>L2.ret _ _
 case mkS esz bytes z len cap=>exact L1.b2 (qH t len) λlen=>L1.b2 (qH t cap) λcap=>L1.b2 (qhi len) λl=>L1.b2 (qhi cap) λc=>L2.wh _ (L2.wh _ (L2.wh _ (L1.b2 (qnu z c) λcs=>L2.b2 (qfI _ _) λb h'=>L2.ret _ _)))
 case len str x =>
  refine L1.b2 (qH t x) λx=>?_
  cases x<;>dsimp only<;>try exact L2.no
  .exact L2.br _ L2.no (L1.b2 (zy _) λn=>L2.ret _ _)
  .exact Dx
  .exact Dx
  .exact L2.br _ L2.no (L1.b2 (qh9 _) λv=>L2.ret _ _)
  .exact Dx
  .exact Dx
  .exact Dx
  .exact Dx
 case app esz bytes c s x=>exact L1.b2 (qH t s) λs=>L1.b2 (qH t x) (by grind[qr3])
 case max x y=>exact D2
 case clear z x =>
  refine L1.b2 (qH t x) λx=>?_
  cases x<;>dsimp only<;>try exact L2.no
  .exact L2.ret _ _
  .rename_i b o n _ _;cases n
   .exact L2.ret _ _
   .rename_i n;show L2 (λk=>ql2 z (n+1) (λcs=>stK h b o cs (λh'=>k (AV.tup []) h')))
    exact L1.b2 (qnu z (n+1)) λcs=>L1.b2 (qrK _ _ _ _) λh'=>L2.ret _ _
 case mkM=>exact L2.b2 (qfI _ _) λb h'=>L2.ret _ _
 case lookM kd ok z x i =>
  refine L1.b2 (qH t x) λx=>L1.b2 (qH t i) λi=>qyl orc kd i ?_
  cases x<;>dsimp only<;>try exact L2.no
  .exact L1.b2 (qwv _ _ _) λv=>L2.ret _ _
  .exact L1.b2 (qyH _ _) λes=>L1.b2 (qtb _ _ _) λv=>L1.b2 (qwv _ _ _) λv=>L2.ret _ _
 case updM kd x i v =>
  refine L1.b2 (qH t x) λx=>L1.b2 (qH t i) λi=>L1.b2 (qH t v) λv=>qyl orc kd i ?_
  cases x<;>dsimp only<;>try exact L2.no
  exact L1.b2 (qyH _ _) λes=>L1.b2 (qAc _ _ _ _) λes'=>L1.b2 (qpJ _ _ _) λh'=>L2.ret _ _
 case min x y=>exact D2
 case storeD n x v ps=>exact L1.b2 (qH t x) λp=>L2.b2 (qua p) λb o=>qqf _ _ _ (L1.b2 (qH t v) λv=>L2.wh _ (L1.b2 (qnc _) λm=>L2.wh _ (L1.b2 (qrK _ _ _ _) λh'=>L2.ret _ _)))
 case appD esz bytes s x ps=>exact L1.b2 (qH t s) λs=>L1.b2 (qH t x) λx=>qzR _ _ _ (qr3 _ _ _ _ _ _)
 all_goals simp_all[L1.b2,qH,qr3,L2.no]
def LC(C:zZ):Prop:=∀f vs h,L2 (C f vs h)
def qsT:∀l n t,L1 (qqi l n t)
 | [],_,t=>L1.ret t
 | v::l,n,t=>by
  show L1 (λk=>t.setK n v (λt'=>qE (Nat.succ n) (λn'=>qqi l n' t' k)))
  exact L1.b1 (qpX t n v) λt'=>L1.b1 (zy _) λn'=>qsT l n' t'
def qnv(t:Tr AV)(h:Hp):∀rs,L1 (qa6 t h rs)
 | []=>L1.ret _
 | .tmp n::rs=>by
  show L1 (λk=>t.getK n (λv=>qa6 t h rs (λvs=>k (v::vs))))
  exact L1.b1 (qmX t n) λv=>L1.b1 (qnv t h rs) λvs=>L1.ret _
 | .cell n size agg::rs=>by
  show L1 (λk=>t.getK n (λp=>unP p (λb o=>Bool.rec (motive:=λ_=>Prop) (ldK h b o (λv=>qa6 t h rs (λvs=>k (v::vs)))) (qfG h b o size (λcs=>qa6 t h rs (λvs=>k (.agg cs::vs)))) agg)))
  exact L1.b1 (qmX t n) λp=>L2.b1 (qua p) λb o=>L1.br _ (L1.b1 (qDT _ _ _) λv=>L1.b1 (qnv t h rs) λvs=>L1.ret _) (L1.b1 (qna _ _ _ _) λcs=>L1.b1 (qnv t h rs) λvs=>L1.ret _)
theorem qzH{F:Hp->(AV->Hp->Prop)->Prop}(hF:∀h,L2 (F h))(h:Hp):L2 (qie F h):=by
 cases h with
 | mk sz fl tr =>
  intro k hk;obtain⟨v,h',h1,h2⟩:=hF ⟨sz,sz,tr⟩ _ hk;cases h' with
  | mk sz' fl' tr'=>exact⟨v,⟨sz',fl,tr'⟩,h1,λk' hk'=>h2 (λv h'=>Hp.rec (motive:=λ_=>Prop) (λsz' _ tr'=>k' v ⟨sz',fl,tr'⟩) h') hk'⟩
theorem qtY(orc:Orc){C:zZ}(hi:LC C)(r:RK)(t:Tr AV)(h:Hp):L2 (qdB orc C r t h):=by
 cases r with
 | op o=>exact qKx orc o t h
 | callF f args=>exact L1.b2 (qjh t args) λvs=>hi (Nat.succ f) vs h
 | callV x args =>
  exact E5
 | callW f args=>exact L1.b2 (qjh t args) λvs=>hi (Nat.succ f) vs h
 | callVW x args =>
  exact E5
def qzM(orc:Orc)(draw:Bool){C:zZ}(hi:LC C)(r:RK)(t:Tr AV)(h:Hp):L2 (qjB orc draw C r t h) :=
 L2.br _ (by grind[qtY]) (by grind[qzH,qtY])
def qqX(t:Tr AV)(g:Option (Nat×Bool)):L1 (qa1 t g):=by
 cases g with
 | none=>exact L1.ret _
 | some g =>
  show L1 (λk=>t.getK g.1 (λv=>match v with
   | .b x=>zl (x==g.2) k
   | .tup _=>k false
   | _=>False))
  refine L1.b1 (qmX t g.1) λv=>?_
  cases v<;>dsimp only<;>first|exact L1.no|exact xT _|exact L1.ret _
def qpt(t:Tr AV)(d:Option Nat)(v:AV):L1 (qap t d v):=by
 cases d
 .exact L1.ret _
 .exact qpX _ _ _
def qsz(orc:Orc)(draw:Bool){C:zZ}(hi:LC C):∀(ops:List ROp) (t:Tr AV) (h:Hp),L2 (λQ=>qkz orc draw C ops Q t h)
 | [],t,h=>L2.ret t h
 | ⟨dst,k,g⟩::ops,t,h=>by
  refine L1.b2 (qqX t g) λgo=>L2.br go (L1.b2 (qpt t dst _) λt'=>qsz orc draw hi ops t' h) (L2.b2 (qzM orc draw hi k t h) λv h'=>L1.b2 (qpt t dst v) λt'=>qsz orc draw hi ops t' h')
structure Loc where
 blk:Nat
 off:Nat
 size:Nat
 esz:Nat
structure Fz where
 φ:Nat->Option (Array Value)
 ok:∀k a,tab k=some a->φ k=some a
instance:Coe Fz (Nat->Option (Array Value)):=⟨Fz.φ⟩
instance:CoeFun Fz (λ_=>Nat->Option (Array Value)):=⟨Fz.φ⟩
structure Ren where
 loc:Nat->Option Loc
 frz:Fz
 n:Nat
instance:CoeFun Ren (λ_=>Nat->Option Loc):=⟨Ren.loc⟩
def Ren.le(Z Z':Ren):Prop:=(∀b L,Z b=some L->Z' b=some L)/\(∀k a,Z.frz k=some a->Z'.frz k=some a)/\Z.n<=Z'.n
def Ren.le_trans{a b c:Ren}(h:a.le b)(h':b.le c):a.le c:=⟨λx L hx=>h'.1 x L (h.1 x L hx),λk y hk=>h'.2.1 k y (h.2.1 k y hk),zzg h.2.2 h'.2.2⟩
mutual
inductive CR (σ:Nat->Value) (φ:Nat->Option (Array Value)):AV->Value->Prop where
 | undef (v:Value):CR σ φ .undef v
 | b (x:Bool):CR σ φ (.b x) (.bool x)
 | i (k:IntKind) (n:Int):CR σ φ (.i k n) (.int k n)
 | s (x:List UInt8):CR σ φ (.s x) (.string ⟨x.toArray⟩)
 | nilp:CR σ φ .nilp (.pointer none)
 | nils:CR σ φ .nils (.slice none 0 0)
 | nilf:CR σ φ .nilf .nilFunc
 | fn (f:Nat) (first cap:List AV) (first' cap':Array Value) (h1:CRs σ φ first first'.toList) (h2:CRs σ φ cap cap'.toList):CR σ φ (.fn f first cap) (.func (.func f) first' cap')
 | nili:CR σ φ .nili .nilIface
 | ifc (t:Nat) (v:AV) (v':Value) (h:CR σ φ v v'):CR σ φ (.ifc t v) (.iface t v')
 | agg (cs:List AV) (cs':Array Value) (h:CRs σ φ cs cs'.toList):CR σ φ (.agg cs) (.agg cs')
 | tup (cs:List AV) (cs':Array Value) (h:CRs σ φ cs cs'.toList):CR σ φ (.tup cs) (.tuple cs')
 | nilm:CR σ φ .nilm (.map none)
 | sym (j:Nat):CR σ φ (.sym j) (σ j)
 | fz (n off c:Nat) (cs:List AV) (k:Nat) (arr:Array Value) (hn:n<=c) (h:φ k=some arr) (hs:CRs σ φ cs ((arr.toList.drop off).take cs.length)):CR σ φ (.fz n cs) (.slice (some ⟨k,off,none⟩) n c)
 | fz0 (a:Option Addr):CR σ φ (.fz 0 []) (.slice a 0 0)
 | pf (off base:Nat) (cs:List AV) (k:Nat) (arr:Array Value) (h:φ k=some arr) (hs:CRs σ φ cs ((arr.toList.drop base).take cs.length)):CR σ φ (.pf cs off) (.pointer (some ⟨k,base+off,none⟩))
 | e0 (a:Option Addr):CR σ φ .e0 (.slice a 0 0)
 | nz (a:Addr) (c:Nat):CR σ φ .nz (.slice (some a) 0 c)
inductive CRs (σ:Nat->Value) (φ:Nat->Option (Array Value)):List AV->List Value->Prop where
 | nil:CRs σ φ [] []
 | cons (v:AV) (vs:List AV) (v':Value) (vs':List Value) (h:CR σ φ v v') (hs:CRs σ φ vs vs'):CRs σ φ (v::vs) (v'::vs')
end
mutual
theorem CR.mono{σ:Nat->Value}{φ φ':Nat->Option (Array Value)}(hφ:∀k a,φ k=some a->φ' k=some a):∀{a:AV}{v:Value},CR σ φ a v->CR σ φ' a v
 | _,_,.undef v=>.undef v
 | _,_,.b x=>.b x
 | _,_,.i k n=>.i k n
 | _,_,.s x=>.s x
 | _,_,.nilp=>.nilp
 | _,_,.nils=>.nils
 | _,_,.nilf=>.nilf
 | _,_,.fn f first cap first' cap' h1 h2=>.fn f first cap first' cap' (h1.mono hφ) (h2.mono hφ)
 | _,_,.nili=>.nili
 | _,_,.ifc t v v' h=>.ifc t v v' (h.mono hφ)
 | _,_,.agg cs cs' h=>.agg cs cs' (h.mono hφ)
 | _,_,.tup cs cs' h=>.tup cs cs' (h.mono hφ)
 | _,_,.nilm=>.nilm
 | _,_,.sym j=>.sym j
 | _,_,.fz n off c cs k arr hn h hs=>.fz n off c cs k arr hn (hφ k arr h) (hs.mono hφ)
 | _,_,.fz0 a=>.fz0 a
 | _,_,.pf off base cs k arr h hs=>.pf off base cs k arr (hφ k arr h) (hs.mono hφ)
 | _,_,.e0 a=>.e0 a
 | _,_,.nz a c=>.nz a c
theorem CRs.mono{σ:Nat->Value}{φ φ':Nat->Option (Array Value)}(hφ:∀k a,φ k=some a->φ' k=some a):∀{a:List AV}{v:List Value},CRs σ φ a v->CRs σ φ' a v
 | _,_,.nil=>.nil
 | _,_,.cons v vs v' vs' h hs=>.cons v vs v' vs' (h.mono hφ) (hs.mono hφ)
end
def CRs.length{σ:Nat->Value}{φ:Nat->Option (Array Value)}{zy:List AV}{vs:List Value}(h:CRs σ φ zy vs):zy.length=vs.length:=Er
mutual
inductive VR (σ:Nat->Value) (Z:Ren):AV->Value->Prop where
 | undef (v:Value):VR σ Z .undef v
 | b (x:Bool):VR σ Z (.b x) (.bool x)
 | i (k:IntKind) (n:Int):VR σ Z (.i k n) (.int k n)
 | s (x:List UInt8):VR σ Z (.s x) (.string ⟨x.toArray⟩)
 | nilp:VR σ Z .nilp (.pointer none)
 | ptr (b o:Nat) (L:Loc) (h:Z b=some L):VR σ Z (.ptr b o) (.pointer (some ⟨L.blk,L.off+o,none⟩))
 | nils:VR σ Z .nils (.slice none 0 0)
 | sl (b o len cap c:Nat) (loose:Bool) (L:Loc) (h:Z b=some L)
   (hc:c=cap\/(loose=true/\cap<=c/\L.off+o+c*L.esz<=L.size)):VR σ Z (.sl b o len cap loose) (.slice (some ⟨L.blk,L.off+o,none⟩) len c)
 | slz (b o x:Nat) (l:Bool) (L:Loc) (h:Z b=some L):VR σ Z (.sl b o 0 0 l) (.slice (some ⟨L.blk,x,none⟩) 0 0)
 | nilf:VR σ Z .nilf .nilFunc
 | fn (f:Nat) (first cap:List AV) (first' cap':Array Value) (h1:VRs σ Z first first'.toList) (h2:VRs σ Z cap cap'.toList):VR σ Z (.fn f first cap) (.func (.func f) first' cap')
 | nili:VR σ Z .nili .nilIface
 | ifc (t:Nat) (v:AV) (v':Value) (h:VR σ Z v v'):VR σ Z (.ifc t v) (.iface t v')
 | agg (cs:List AV) (cs':Array Value) (h:VRs σ Z cs cs'.toList):VR σ Z (.agg cs) (.agg cs')
 | tup (cs:List AV) (cs':Array Value) (h:VRs σ Z cs cs'.toList):VR σ Z (.tup cs) (.tuple cs')
 | nilm:VR σ Z .nilm (.map none)
 | map (b:Nat) (L:Loc) (h:Z b=some L) (h0:L.off=0):VR σ Z (.map b) (.map (some L.blk))
 | sym (j:Nat):VR σ Z (.sym j) (σ j)
 | fz (n off c:Nat) (cs:List AV) (k:Nat) (arr:Array Value) (hn:n<=c) (h:Z.frz k=some arr) (hs:CRs σ Z.frz cs ((arr.toList.drop off).take cs.length)):VR σ Z (.fz n cs) (.slice (some ⟨k,off,none⟩) n c)
 | fz0 (a:Option Addr):VR σ Z (.fz 0 []) (.slice a 0 0)
 | pf (off base:Nat) (cs:List AV) (k:Nat) (arr:Array Value) (h:Z.frz k=some arr) (hs:CRs σ Z.frz cs ((arr.toList.drop base).take cs.length)):VR σ Z (.pf cs off) (.pointer (some ⟨k,base+off,none⟩))
 | e0 (a:Option Addr):VR σ Z .e0 (.slice a 0 0)
 | nz (a:Addr) (c:Nat):VR σ Z .nz (.slice (some a) 0 c)
 | own0 (b:Nat) (a:Option Addr) (hb:b<Z.n):VR σ Z (.own b 0) (.slice a 0 0)
 | own (b n c:Nat) (L:Loc) (h:Z b=some L) (hn:n<=c) (hc:L.off+c*L.esz<=L.size):VR σ Z (.own b n) (.slice (some ⟨L.blk,L.off,none⟩) n c)
 | yl (b:Nat) (L:Loc) (h:Z b=some L):VR σ Z (.yl b) (.func (.yield L.blk) #[] #[])
inductive VRs (σ:Nat->Value) (Z:Ren):List AV->List Value->Prop where
 | nil:VRs σ Z [] []
 | cons (v:AV) (vs:List AV) (v':Value) (vs':List Value) (h:VR σ Z v v') (hs:VRs σ Z vs vs'):VRs σ Z (v::vs) (v'::vs')
end
variable {σ:Nat->Value}{Z Z':Ren}
mutual
theorem VR.mono(hZ:Z.le Z'):∀{a:AV}{v:Value},VR σ Z a v->VR σ Z' a v
 | _,_,.undef v=>.undef v
 | _,_,.b x=>.b x
 | _,_,.i k n=>.i k n
 | _,_,.s x=>.s x
 | _,_,.nilp=>.nilp
 | _,_,.ptr b o L h=>.ptr b o L (hZ.1 b L h)
 | _,_,.nils=>.nils
 | _,_,.sl b o len cap c loose L h hc=>.sl b o len cap c loose L (hZ.1 b L h) hc
 | _,_,.slz b o x l L h=>.slz b o x l L (hZ.1 b L h)
 | _,_,.nilf=>.nilf
 | _,_,.fn f first cap first' cap' h1 h2=>.fn f first cap first' cap' (h1.mono hZ) (h2.mono hZ)
 | _,_,.nili=>.nili
 | _,_,.ifc t v v' h=>.ifc t v v' (h.mono hZ)
 | _,_,.agg cs cs' h=>.agg cs cs' (h.mono hZ)
 | _,_,.tup cs cs' h=>.tup cs cs' (h.mono hZ)
 | _,_,.nilm=>.nilm
 | _,_,.map b L h h0=>.map b L (hZ.1 b L h) h0
 | _,_,.sym j=>.sym j
 | _,_,.fz n off c cs k arr hn h hs=>.fz n off c cs k arr hn (hZ.2.1 k arr h) (hs.mono hZ.2.1)
 | _,_,.fz0 a=>.fz0 a
 | _,_,.pf off base cs k arr h hs=>.pf off base cs k arr (hZ.2.1 k arr h) (hs.mono hZ.2.1)
 | _,_,.e0 a=>.e0 a
 | _,_,.nz a c=>.nz a c
 | _,_,.own0 b a hb=>.own0 b a (zzh hb hZ.2.2)
 | _,_,.own b n c L h hn hc=>.own b n c L (hZ.1 b L h) hn hc
 | _,_,.yl b L h=>.yl b L (hZ.1 b L h)
theorem VRs.mono(hZ:Z.le Z'):∀{a:List AV}{v:List Value},VRs σ Z a v->VRs σ Z' a v
 | _,_,.nil=>.nil
 | _,_,.cons v vs v' vs' h hs=>.cons v vs v' vs' (h.mono hZ) (hs.mono hZ)
end
def VRs.length{zy:List AV}{vs:List Value}(h:VRs σ Z zy vs):zy.length=vs.length:=Er
theorem VRs.get{zy:List AV}{vs:List Value}(h:VRs σ Z zy vs){j:Nat}{a:AV}(ha:zy[j]?=some a):∃v,vs[j]?=some v/\VR σ Z a v:=by
 induction zy generalizing vs j with
 | nil=>exact Ag
 | cons x xs ih =>
  cases h<;>grind
theorem VRs.of_get{zy:List AV}{vs:List Value}(hl:zy.length=vs.length)(h:∀(j:Nat) a,zy[j]?=some a->∃v,vs[j]?=some v/\VR σ Z a v):VRs σ Z zy vs:=by
 induction zy generalizing vs with
 | nil => cases vs with
          | nil=>exact .nil
          | cons=>exact Ag
 | cons x xs ih =>
  cases vs with
  | nil=>exact Ag
  | cons v vs =>
   obtain⟨v',hv,hr⟩:=h 0 x rfl;simp at hv;subst hv;exact .cons _ _ _ _ hr (ih Ae λj a ha=>by simpa using h (j+1) a Ae)
def VRs.append{zy bs:List AV}{vs us:List Value}(h:VRs σ Z zy vs)(h':VRs σ Z bs us):VRs σ Z (zy++bs) (vs++us):=by
 induction zy generalizing vs with
 | nil=>cases h;exact h'
 | cons a zy ih=>cases h with|cons _ _ _ _ h hs=>exact .cons _ _ _ _ h (ih hs)
def VRs.take{zy:List AV}{vs:List Value}(h:VRs σ Z zy vs)(n:Nat):VRs σ Z (zy.take n) (vs.take n):=by
 induction zy generalizing vs n with
 | nil=>cases h;exact Dt
 | cons a zy ih => cases h with | cons _ _ _ _ h hs => cases n with
                                                       | zero=>exact Ag
                                                       | succ n=>exact .cons _ _ _ _ h (ih hs n)
def VRs.drop{zy:List AV}{vs:List Value}(h:VRs σ Z zy vs)(n:Nat):VRs σ Z (zy.drop n) (vs.drop n):=by
 induction zy generalizing vs n with
 | nil=>cases h;exact Dt
 | cons a zy ih => cases h with | cons _ _ _ _ h hs => cases n with
                                                       | zero=>exact .cons _ _ _ _ h hs
                                                       | succ n=>exact Ae
mutual
theorem CR.vr:∀{a:AV}{v:Value},CR σ Z.frz a v->VR σ Z a v
 | _,_,.undef v=>.undef v
 | _,_,.b x=>.b x
 | _,_,.i k n=>.i k n
 | _,_,.s x=>.s x
 | _,_,.nilp=>.nilp
 | _,_,.nils=>.nils
 | _,_,.nilf=>.nilf
 | _,_,.fn f first cap first' cap' h1 h2=>.fn f first cap first' cap' h1.vr h2.vr
 | _,_,.nili=>.nili
 | _,_,.ifc t v v' h=>.ifc t v v' h.vr
 | _,_,.agg cs cs' h=>.agg cs cs' h.vr
 | _,_,.tup cs cs' h=>.tup cs cs' h.vr
 | _,_,.nilm=>.nilm
 | _,_,.sym j=>.sym j
 | _,_,.fz n off c cs k arr hn h hs=>.fz n off c cs k arr hn h hs
 | _,_,.fz0 a=>.fz0 a
 | _,_,.pf off base cs k arr h hs=>.pf off base cs k arr h hs
 | _,_,.e0 a=>.e0 a
 | _,_,.nz a c=>.nz a c
theorem CRs.vr:∀{a:List AV}{v:List Value},CRs σ Z.frz a v->VRs σ Z a v
 | _,_,.nil=>.nil
 | _,_,.cons v vs v' vs' h hs=>.cons v vs v' vs' h.vr hs.vr
end
theorem CRs.get{φ:Nat->Option (Array Value)}{zy:List AV}{vs:List Value}(h:CRs σ φ zy vs){j:Nat}{a:AV}(ha:zy[j]?=some a):∃v,vs[j]?=some v/\CR σ φ a v:=by
 induction zy generalizing vs j with
 | nil=>exact Ag
 | cons x xs ih =>
  cases h<;>grind
def CRs.take{φ:Nat->Option (Array Value)}{zy:List AV}{vs:List Value}(h:CRs σ φ zy vs)(n:Nat):CRs σ φ (zy.take n) (vs.take n):=by
 induction zy generalizing vs n with
 | nil=>cases h;exact Dt
 | cons a zy ih => cases h with | cons _ _ _ _ h hs => cases n with
                                                       | zero=>exact Ag
                                                       | succ n=>exact .cons _ _ _ _ h (ih hs n)
def CRs.drop{φ:Nat->Option (Array Value)}{zy:List AV}{vs:List Value}(h:CRs σ φ zy vs)(n:Nat):CRs σ φ (zy.drop n) (vs.drop n):=by
 induction zy generalizing vs n with
 | nil=>cases h;exact Dt
 | cons a zy ih => cases h with | cons _ _ _ _ h hs => cases n with
                                                       | zero=>exact .cons _ _ _ _ h hs
                                                       | succ n=>exact Ae
def qbI(σ:Nat->Value)(Z:Ren)(es:List (AV×AV))(vs:List MapEntry):Prop :=
 es.length=vs.length/\∀(j:Nat) (e:AV×AV),es[j]?=some e->∃v:MapEntry,vs[j]?=some v/\VR σ Z e.1 v.key/\VR σ Z e.2 v.val
def qrW(es:List (AV×AV)):Prop:=∀e,es.head?=some e->e.1≠.undef/\∀r,e.1≠.lp r
class Cur where
 ok:Nat->Loop->Prop
 st:∀{j:Nat}{r:Loop}(s:LoopState) (p:Option Code),ok j r->ok j { r with state:=s,pending:=p }
instance cur:Cur:=⟨λ_ _=>False,λ_ _ h=>h⟩
def qfS(r r':Loop):Prop:=(r'=r/\∀j,r.assign≠.goto j)\/∃j,r.assign = .goto j/\Cur.ok j r'/\r'.state=r.state/\r'.pending=r.pending
def qfS.state{r r':Loop}(h:qfS r r'):r'.state=r.state:=by
 rcases h with⟨rfl,_⟩|⟨_,_,_,h,_⟩
 all_goals grind
def qfS.pending{r r':Loop}(h:qfS r r'):r'.pending=r.pending:=by
 rcases h with⟨rfl,_⟩|⟨_,_,_,_,h⟩
 all_goals grind
def qfS.set{r r':Loop}(h:qfS r r')(s:LoopState)(p:Option Code):qfS { r with state:=s,pending:=p } { r' with state:=s,pending:=p }:=by
 rcases h with⟨rfl,h0⟩|⟨j,h1,h2,_,_⟩
 .exact .inl ⟨rfl,h0⟩
 .exact .inr (by grind[Cur.st])
def qbY(σ:Nat->Value)(Z:Ren)(es:List (AV×AV))(o:Obj):Prop :=
 (qrW es/\∃vs clk,o = .map vs clk/\qbI σ Z es vs.toList)\/(∃a n,es=qff a n/\o = .stringIter ⟨a.toArray⟩ n) \/
 ∃r r' ts,es=zV r ts/\o = .loop r'/\qfS r r'/\∀p ∈ ts,p.1<r'.tmps.size/\VR σ Z p.2 (r'.tmps.getD p.1 undef)
theorem qbY.mono(hZ:Z.le Z'){es:List (AV×AV)}{o:Obj}(h:qbY σ Z es o):qbY σ Z' es o:=by
 rcases h with⟨h0,vs,clk,h1,h2,h3⟩|h|⟨r,r',ts,h1,h2,h4,h3⟩
 .exact .inl ⟨h0,vs,clk,h1,h2,Cs⟩
 .exact .inr (.inl h)
 .exact .inr Cs
def qbY.map{es:List (AV×AV)}{o:Obj}(h:qbY σ Z es o)(hn:qrW es):∃vs clk,o = .map vs clk/\qbI σ Z es vs.toList:=by
 rcases h with⟨_,h⟩|⟨a,n,rfl,_⟩|⟨r,_,ts,rfl,_⟩
 .exact h
 .exact absurd rfl (hn _ rfl).1
 .exact absurd rfl ((hn _ rfl).2 r)
theorem qrA{r r':Loop}{ts ts':List (Nat×AV)}(h:zV r ts=zV r' ts'):r=r'/\ts=ts':=by
 simp only[zV,List.cons.injEq,Prod.mk.injEq,AV.lp.injEq,and_true]at h;refine⟨h.1,?_⟩;have h2:=h.2;clear h
 induction ts generalizing ts' with
 | nil=>exact Ae
 | cons p ts ih =>
  cases ts'<;>grind
def qbY.rec'{r:Loop}{ts:List (Nat×AV)}{o:Obj}(h:qbY σ Z (zV r ts) o):∃r',o = .loop r'/\qfS r r'/\∀p ∈ ts,p.1<r'.tmps.size/\VR σ Z p.2 (r'.tmps.getD p.1 undef):=by
 rcases h with⟨h,_⟩|⟨a',n',h1,h2⟩|⟨r',r'',ts',h1,h2,h4,h3⟩
 .exact absurd rfl ((h _ rfl).2 r)
 .simp[qff,zV]at h1
 grind[qrA]
def qbY.notCells{es:List (AV×AV)}{c:Array Value}{ty:TypeId}{fz:Nat×Nat}(h:qbY σ Z es (.cells c ty fz)):False:=by
 rcases h with⟨_,_,_,h,_⟩|⟨_,_,_,h⟩|⟨_,_,_,_,h,_⟩<;>cases h
structure Rel (σ:Nat->Value) (Z:Ren) (B:Nat->Prop) (h:Hp) (w:World):Prop where
 dom:∀b L,Z b=some L->b<h.sz
 cells:∀b L e wf af cs,Z b=some L->h.tr.get b=some (.cells e wf af cs)->L.esz=e/\∃c ty fz,w.heap[L.blk]?=some (.cells c ty fz)/\c.size=L.size/\L.off+cs.length<=L.size /\
  (∀j v,cs[j]?=some v->∃v',c[L.off+j]?=some v'/\VR σ Z v v')/\((wf||af)=true->∀j,(j<L.size\/(e=0/\j=L.size))->¬(fz.1<=j/\j<fz.2))
 maps:∀b L es,Z b=some L->h.tr.get b=some (.map es)->L.off=0/\∃o,w.heap[L.blk]?=some o/\qbY σ Z es o
 excl:∀b L e af cs,Z b=some L->h.tr.get b=some (.cells e true af cs)->∀b' L' x,Z b'=some L'->h.tr.get b'=some x->x≠.dead->L'.blk=L.blk->b'=b
 exclm:∀b L es,Z b=some L->h.tr.get b=some (.map es)->∀b' L' x,Z b'=some L'->h.tr.get b'=some x->x≠.dead->L'.blk=L.blk->b'=b
 app:∀b L e wf cs,Z b=some L->h.tr.get b=some (.cells e wf true cs)->∀b' L' e' wf' af' cs',Z b'=some L'->h.tr.get b'=some (.cells e' wf' af' cs')->L'.blk=L.blk->L'.off+cs'.length<=L.off+cs.length/\(af'=true->b'=b)
 flr:∀b L,Z b=some L->h.fl<=b->¬B L.blk
 base:∀k,B k->k<w.heap.size
 frz:∀k arr,Z.frz k=some arr->(∃ty fz,w.heap[k]?=some (.cells arr ty fz))/\∀b L x,Z b=some L->h.tr.get b=some x->x≠.dead->L.blk≠k
 dn:Z.n<=h.sz/\∀b L,Z b=some L->L.blk<w.heap.size
abbrev low (n:Nat):Nat->Prop:=λk=>k<n
def qaB{B:Nat->Prop}{n:Nat}(h:∀k,B k->k<n){k:Nat}(hk:n<=k):¬B k:=Ag
def qgs{B:Nat->Prop}{n m:Nat}(h:∀k,B k->k<n)(hs:n<=m):∀k,B k->k<m:=Ag
structure Kept (Z:Ren) (B:Nat->Prop) (h:Hp) (w:World) (Z':Ren) (h':Hp) (w':World):Prop where
 ext:∀b,b<h.sz->Z' b=Z b
 szle:h.sz<=h'.sz
 fl:h'.fl=h.fl
 akeep:∀b,b<h.fl->b<h.sz->h'.tr.get b=h.tr.get b
 pres:∀k,B k->w'.heap[k]?=w.heap[k]?
 wle:w.heap.size<=w'.heap.size
 io:w'.os=w.os/\w'.output=w.output
 frz:∀k a,Z.frz k=some a->Z'.frz k=some a
 fnew:∀k a,Z'.frz k=some a->Z.frz k=some a\/¬B k
 nle:Z.n<=Z'.n
theorem Kept.refl(Z:Ren)(B:Nat->Prop)(h:Hp)(w:World):Kept Z B h w Z h w :=
 ⟨λ_ _=>rfl,zzL _,rfl,λ_ _ _=>rfl,λ_ _=>rfl,zzL _,⟨rfl,rfl⟩,λ_ _ h=>h,λ_ _ h=>.inl h,zzL _⟩
theorem Kept.trans{Z Z1 Z2:Ren}{B:Nat->Prop}{h h1 h2:Hp}{w w1 w2:World}(k1:Kept Z B h w Z1 h1 w1)(k2:Kept Z1 B h1 w1 Z2 h2 w2):Kept Z B h w Z2 h2 w2 :=
 ⟨λb hb=>(k2.ext b (zzh hb k1.szle)).trans (k1.ext b hb),zzg k1.szle k2.szle,k2.fl.trans k1.fl,
  λb hb hb'=>(k2.akeep b (k1.fl ▸ hb) (zzh hb' k1.szle)).trans (k1.akeep b hb hb'),λk hk=>(k2.pres k hk).trans (k1.pres k hk),zzg k1.wle k2.wle,⟨k2.io.1.trans k1.io.1,k2.io.2.trans k1.io.2⟩,by grind[Kept.frz],by grind[Kept.fnew],zzg k1.nle k2.nle⟩
theorem Kept.mono{B:Nat->Prop}{h h':Hp}{w w':World}(k:Kept Z B h w Z' h' w')(hd:∀b L,Z b=some L->b<h.sz):Z.le Z' :=
 ⟨by grind[Kept.ext],k.frz,k.nle⟩
def Rel.heap{B:Nat->Prop}{h:Hp}{w w':World}(r:Rel σ Z B h w)(e:w'.heap=w.heap):Rel σ Z B h w' :=
 ⟨r.dom,by rw[e];exact r.cells,by rw[e];exact r.maps,r.excl,r.exclm,r.app,r.flr,by rw[e];exact r.base,by rw[e];exact r.frz,by rw[e];exact r.dn⟩
def Ren.add(Z:Ren)(b:Nat)(L:Loc):Ren:=⟨λx=>if x=b then some L else Z x,Z.frz,max Z.n (b+1)⟩
def Hp.push(h:Hp)(x:Blk):Hp:=⟨Nat.succ h.sz,h.fl,h.tr.set h.sz x⟩
def Hp.put(h:Hp)(b:Nat)(x:Blk):Hp:=⟨h.sz,h.fl,h.tr.set b x⟩
theorem xJ(h:Hp)(x:Blk)(k:Nat->Hp->Prop):vg h x k↔k h.sz (h.push x):=by
 cases h;simp only[vg,Tr.setK_iff,qO];exact Bt
theorem qaE(h:Hp)(b:Nat)(x:Blk)(k:Hp->Prop):qd9 h b x k↔h.fl<=b/\k (h.put b x):=by
 cases h with
 | mk sz fl tr =>
  show(Bool.rec (motive:=λ_=>Prop) False (tr.setK b x (λtr'=>k ⟨sz,fl,tr'⟩)) (Nat.ble fl b):Prop)↔_
  rw[qhj]
  by_cases hb:fl<=b
  .simp only[hb,decide_true];rw[Tr.setK_iff];simp;exact Bt
  .simp[hb]
def zC(h:Hp)(b:Nat)(k:Nat->Bool->Bool->List AV->Prop):qas h b k↔∃e w a cs,h.tr.get b=some (.cells e w a cs)/\k e w a cs:=by
 simp only[qas,Tr.getK_iff];constructor
 .rintro⟨v,hv,hk⟩;cases v with
  | cells e w a cs=>exact Ag
  | dead=>exact hk.elim
  | map es=>exact hk.elim
 exact Ag
def Rel.fresh{B:Nat->Prop}{h:Hp}{w w':World}(r:Rel σ Z B h w)(wf af:Bool)(cs:List AV)(c:Array Value)(ty:TypeId)(fz:Nat×Nat)(L0:Loc)(hfz:∀j,(j<L0.size\/(L0.esz=0/\j=L0.size))->¬(fz.1<=j/\j<fz.2))
  (hold:∀k,k<w.heap.size->w'.heap[k]?=w.heap[k]?) (hsz:w.heap.size<=w'.heap.size) (hL:w.heap.size<=L0.blk) (hnew:w'.heap[L0.blk]?=some (.cells c ty fz)) (hcs:c.size=L0.size)
  (hio:w'.os=w.os/\w'.output=w.output) (hl:L0.off+cs.length<=L0.size) (hc:∀(j:Nat) v,cs[j]?=some v->∃v',c[L0.off+j]?=some v'/\VR σ Z v v') :
  Rel σ (Z.add h.sz L0) B (h.push (.cells L0.esz wf af cs)) w'/\Kept Z B h w (Z.add h.sz L0) (h.push (.cells L0.esz wf af cs)) w':=by
 have hext:∀b L,Z b=some L->(Z.add h.sz L0) b=some L:=by
  intro b L hb;have:=r.dom b L hb;simp only[Ren.add];rw[if_neg Ab];exact hb
 have hle:Z.le (Z.add h.sz L0):=⟨hext,λ_ _ h=>h,Nat.le_max_left _ _⟩
 have hwf:∀b L,Z b=some L->∀x,h.tr.get b=some x->x≠.dead->L.blk<w.heap.size:=by
  intro b L hb x hx hd;cases x with
  | cells e' wf' af' cs'=>obtain⟨_,c',ty',fz',hh,_⟩:=r.cells b L e' wf' af' cs' hb hx;exact Ag
  | dead=>exact absurd rfl hd
  | map es=>obtain⟨_,ob,hh,_⟩:=r.maps b L es hb hx;exact Ag
 have hget:∀b x,(h.push (.cells L0.esz wf af cs)).tr.get b=some x->b≠h.sz->h.tr.get b=some x:=by
  intro b x hx hb;simp only[Hp.push,zz4]at hx;rwa [if_neg hb]at hx
 have hget':∀x,(h.push (.cells L0.esz wf af cs)).tr.get h.sz=some x->x = .cells L0.esz wf af cs:=by
  intro x hx;simp[Hp.push,zz4]at hx;exact hx.symm
 have hren:∀b L,(Z.add h.sz L0) b=some L->(b=h.sz/\L=L0)\/(b≠h.sz/\Z b=some L):=by
  intro b L hb;simp only[Ren.add]at hb;split at hb
  .left;exact Ag
  .right;exact Ag
 refine⟨⟨?_,?_,?_,?_,?_,?_,?_,?_,?_,⟨Nat.max_le.2 ⟨Nat.le_succ_of_le r.dn.1,zzL _⟩,?_⟩⟩,⟨?_,?_,rfl,?_,?_,?_,hio,λ_ _ h=>h,λ_ _ h=>.inl h,Nat.le_max_left _ _⟩⟩
 .intro b L hb;exact Ec
 .intro b L e' wf' af' cs' hb hg;rcases hren b L hb with⟨rfl,rfl⟩|⟨hne,hb⟩
  .cases hget' _ hg;refine⟨rfl,c,ty,fz,hnew,hcs,hl,?_,Ag⟩
   intro j v hv;obtain⟨v',h1,h2⟩:=hc j v hv;exact Cs
  .exact Bi
 .intro b L es hb hg;rcases hren b L hb with⟨rfl,rfl⟩|⟨hne,hb⟩
  .cases hget' _ hg
  .exact Cx
 .intro b L e' af' cs' hb hg b' L' x hb' hx hd he;rcases hren b L hb with⟨rfl,rfl⟩|⟨hne,hb1⟩<;>rcases hren b' L' hb' with⟨rfl,rfl⟩|⟨hne',hb'⟩
  .rfl
  .have:=hwf b' L' hb' _ (hget _ _ hx hne') hd;exact Ab
  .have:=hwf b L hb1 _ (hget _ _ hg hne) (by simp);exact Ab
  .exact Dn
 .intro b L es hb hg b' L' x hb' hx hd he;rcases hren b L hb with⟨rfl,rfl⟩|⟨hne,hb1⟩<;>rcases hren b' L' hb' with⟨rfl,rfl⟩|⟨hne',hb'⟩
  .rfl
  .have:=hwf b' L' hb' _ (hget _ _ hx hne') hd;exact Ab
  .have:=hwf b L hb1 _ (hget _ _ hg hne) (by simp);exact Ab
  .exact De
 .intro b L e' wf' cs' hb hg b' L' e2 wf2 af2 cs2 hb' hx he;rcases hren b L hb with⟨rfl,rfl⟩|⟨hne,hb1⟩<;>rcases hren b' L' hb' with⟨rfl,rfl⟩|⟨hne',hb'⟩
  .cases hget' _ hg;cases hget' _ hx;exact Ab
  .have:=hwf b' L' hb' _ (hget _ _ hx hne') (by simp);exact Ab
  .have:=hwf b L hb1 _ (hget _ _ hg hne) (by simp);exact Ab
  .exact Fh
 .intro b L hb hf;rcases hren b L hb with⟨rfl,rfl⟩|⟨_,hb⟩
  .exact qaB r.base hL
  .exact r.flr b L hb hf
 .exact qgs r.base hsz
 .intro k arr hk;obtain⟨⟨ty',fz',h1⟩,h2⟩:=r.frz k arr hk;have hkl:k<w.heap.size:=Ag
  refine⟨⟨ty',fz',by rw[hold k hkl];exact h1⟩,λb L x hb hx hd=>?_⟩
  rcases hren b L hb with⟨rfl,rfl⟩|⟨hne,hb⟩
  .exact Ab
  .exact Ag
 .intro b L hb;rcases hren b L hb with⟨rfl,rfl⟩|⟨_,hb⟩
  .exact Ag
  .exact zzh (r.dn.2 b L hb) hsz
 .intro b hb;simp only[Ren.add];rw[if_neg Ab]
 .exact Nat.le_succ _
 .intro b _ hb;simp only[Hp.push,zz4];rw[if_neg Ab]
 all_goals grind[Rel.base]
def Rel.push{B:Nat->Prop}{h:Hp}{w w':World}(r:Rel σ Z B h w)(e:Nat)(wf af:Bool)(cs:List AV)(c:Array Value)(ty:TypeId)(fz:Nat×Nat)(hfz:∀j,(j<c.size\/(e=0/\j=c.size))->¬(fz.1<=j/\j<fz.2))
  (hw:w'.heap=w.heap.push (.cells c ty fz)) (hio:w'.os=w.os/\w'.output=w.output) (hl:cs.length<=c.size) (hc:∀(j:Nat) v,cs[j]?=some v->∃v',c[j]?=some v'/\VR σ Z v v') :
  Rel σ (Z.add h.sz ⟨w.heap.size,0,c.size,e⟩) B (h.push (.cells e wf af cs)) w'/\Kept Z B h w (Z.add h.sz ⟨w.heap.size,0,c.size,e⟩) (h.push (.cells e wf af cs)) w' :=
 r.fresh wf af cs c ty fz ⟨w.heap.size,0,c.size,e⟩ hfz Ag (by rw[hw,Array.size_push];exact Ab) (zzL _) (by rw[hw];simp) rfl hio Ae
  Ae
def Rel.world{B:Nat->Prop}{h:Hp}{w w':World}(r:Rel σ Z B h w)(hw:∀n,n<w.heap.size->w'.heap[n]?=w.heap[n]?)(hs:w.heap.size<=w'.heap.size):Rel σ Z B h w':=by
 refine⟨r.dom,?_,?_,r.excl,r.exclm,r.app,r.flr,qgs r.base hs,λk arr hk=>?_,⟨r.dn.1,λb L hb=>zzh (r.dn.2 b L hb) hs⟩⟩
 rotate_right
 .obtain⟨⟨ty,fz,h1⟩,h2⟩:=r.frz k arr hk;exact Ag
 all_goals grind[Rel.cells,Rel.maps]
theorem Ren.add_self(Z:Ren)(b:Nat)(L:Loc):(Z.add b L) b=some L:=by simp[Ren.add]
end
section
variable {σ:Nat->Value}{Z Z':Ren}
structure Spl (c:Array Value) (p:Nat) (vs:List Value) (c':Array Value):Prop where
 size:c'.size=c.size
 out:∀j,j<p\/p+vs.length<=j->c'[j]?=c[j]?
 inn:∀j v,vs[j]?=some v->c'[p+j]?=some v
theorem Rel.blk_lt{B:Nat->Prop}{h:Hp}{w:World}(r:Rel σ Z B h w):∀b L,Z b=some L->∀x,h.tr.get b=some x->x≠.dead->L.blk<w.heap.size:=by
 intro b L hb x hx hd;cases x with
 | cells e' wf' af' cs'=>obtain⟨_,c',ty',fz',hh,_⟩:=r.cells b L e' wf' af' cs' hb hx;exact Ag
 | dead=>exact Ae
 | map es=>obtain⟨_,ob,hh,_⟩:=r.maps b L es hb hx;exact Ag
def Rel.longer{B:Nat->Prop}{h h':Hp}{w:World}(r:Rel σ Z B h w)(hs:h.sz<=h'.sz)(hf:h'.fl=h.fl)(hg:∀b,b<h.sz->h'.tr.get b=h.tr.get b):Rel σ Z B h' w:=by
 have hget:∀b L,Z b=some L->h'.tr.get b=h.tr.get b:=by grind[Rel.dom]
 refine⟨by grind[Rel.dom],?_,?_,?_,?_,?_,I6,r.base,D8,⟨zzg r.dn.1 hs,r.dn.2⟩⟩
 .grind[Rel.cells]
 .grind[Rel.maps]
 .exact Dn
 .exact De
 .intro b L e wf cs hb hx b' L' e' wf' af' cs' hb' hx';rw[hget b L hb]at hx;rw[hget b' L' hb']at hx';exact r.app b L e wf cs hb hx b' L' e' wf' af' cs' hb' hx'
def Ren.bump(Z:Ren)(m:Nat):Ren:=⟨Z.loc,Z.frz,max Z.n m⟩
theorem Ren.bump_le(Z:Ren)(m:Nat):Z.le (Z.bump m):=⟨λ_ _ h=>h,λ_ _ h=>h,Nat.le_max_left _ _⟩
def Rel.bump{B:Nat->Prop}{h:Hp}{w:World}(r:Rel σ Z B h w){m:Nat}(hm:m<=h.sz):Rel σ (Z.bump m) B h w :=
 ⟨r.dom,λb L e wf af cs hb hg=>let ⟨h1,c,ty,fz,h2,h3,h4,h5,h6⟩:=r.cells b L e wf af cs hb hg
  (by grind[VR.mono,Ren.bump_le]),
  λb L es hb hg=>let ⟨h1,o,h2,h3⟩:=r.maps b L es hb hg;(by grind[qbY.mono,Ren.bump_le]),r.excl,r.exclm,r.app,r.flr,r.base,r.frz,⟨Nat.max_le.2 ⟨r.dn.1,hm⟩,r.dn.2⟩⟩
def Rel.idle{B:Nat->Prop}{h:Hp}{w:World}(r:Rel σ Z B h w)(x:Blk):Rel σ (Z.bump (h.sz+1)) B (h.push x) w/\Kept Z B h w (Z.bump (h.sz+1)) (h.push x) w :=
 ⟨(r.longer (h':=h.push x) (Nat.le_succ _) rfl (λb hb=>by simp only[Hp.push,zz4];rw[if_neg Ab])).bump (zzL _),
  λ_ _=>rfl,Nat.le_succ _,rfl,λb _ hb=>by simp only[Hp.push,zz4];rw[if_neg Ab],λ_ _=>rfl,zzL _,⟨rfl,rfl⟩,λ_ _ h=>h,λ_ _ h=>.inl h,Nat.le_max_left _ _⟩
theorem Rel.frz'{B:Nat->Prop}{h:Hp}{w w':World}{φ:Fz}(r:Rel σ Z B h w)(hw:∀n,n<w.heap.size->w'.heap[n]?=w.heap[n]?)(hs:w.heap.size<=w'.heap.size)(h1:∀k a,Z.frz k=some a->φ k=some a)
  (h2:∀k a,φ k=some a->Z.frz k=some a\/w.heap.size<=k) (h3:∀k a,φ k=some a->∃ty fz,w'.heap[k]?=some (.cells a ty fz)):Rel σ ⟨Z.loc,φ,Z.n⟩ B h w':=by
 have r':=r.world hw hs;have hle:Z.le ⟨Z.loc,φ,Z.n⟩:=⟨λ_ _ h=>h,h1,zzL _⟩
 refine⟨r'.dom,λb L e wf af cs hb hg=>?_,λb L es hb hg=>?_,r'.excl,r'.exclm,r'.app,r'.flr,r'.base,λk arr hk=>⟨h3 k arr hk,λb L x hb hx hd=>?_⟩,r'.dn⟩
 .obtain⟨g1,c,ty,fz,g2,g3,g4,g5,g6⟩:=r'.cells b L e wf af cs hb hg;exact Cs
 all_goals grind[Rel.maps,qbY.mono,Rel.frz,Rel.blk_lt]
def Rel.store{B:Nat->Prop}{h:Hp}{w w':World}(r:Rel σ Z B h w){b:Nat}{L:Loc}{e:Nat}{af:Bool}{cs:List AV}(hb:Z b=some L)
  (hg:h.tr.get b=some (.cells e true af cs)) (hf:h.fl<=b) (off:Nat) (vs:List AV) (vs':List Value) (hv:VRs σ Z vs vs') (hl:off+vs.length<=cs.length)
  {c c':Array Value}{ty:TypeId}{fz:Nat×Nat}(hc:w.heap[L.blk]?=some (.cells c ty fz)) (hs:Spl c (L.off+off) vs' c')
  (hw:w'.heap=w.heap.setIfInBounds L.blk (.cells c' ty fz)) (hio:w'.os=w.os/\w'.output=w.output) :
  Rel σ Z B (h.put b (.cells e true af (cs.take off++(vs++cs.drop (off+vs.length))))) w'/\Kept Z B h w Z (h.put b (.cells e true af (cs.take off++(vs++cs.drop (off+vs.length))))) w':=by
 have hlen:=hv.length;have hcl:(cs.take off++(vs++cs.drop (off+vs.length))).length=cs.length:=by simp;exact Ab
 have hlt:L.blk<w.heap.size:=(Array.getElem?_eq_some_iff.1 hc).1
 have hold:∀k,k≠L.blk->w'.heap[k]?=w.heap[k]?:=by
  intro k hk;rw[hw,zzw];rw[if_neg Ab]
 have hnew:w'.heap[L.blk]?=some (.cells c' ty fz):=Ix
 have hget:∀b' x,(h.put b (.cells e true af (cs.take off++(vs++cs.drop (off+vs.length))))).tr.get b'=some x->b'≠b->h.tr.get b'=some x:=by
  intro b' x hx hne;simp only[Hp.put,zz4]at hx;rwa [if_neg hne]at hx
 have hgb:∀x,(h.put b (.cells e true af (cs.take off++(vs++cs.drop (off+vs.length))))).tr.get b=some x->x = .cells e true af (cs.take off++(vs++cs.drop (off+vs.length))):=by
  intro x hx;simp[Hp.put,zz4]at hx;exact hx.symm
 have hother:∀b' L' x,Z b'=some L'->h.tr.get b'=some x->x≠.dead->b'≠b->L'.blk≠L.blk :=
  λb' L' x hb' hx hd hne he=>hne (r.excl b L e af cs hb hg b' L' x hb' hx hd he)
 obtain⟨he,c0,ty0,fz0,h1,h2,h3,h4,h5⟩:=r.cells b L e true af cs hb hg;rw[hc]at h1;cases h1;refine⟨⟨r.dom,?_,?_,?_,?_,?_,r.flr,?_,?_,⟨r.dn.1,λb L hb=>Hi⟩⟩,⟨λ_ _=>rfl,zzL _,rfl,?_,?_,?_,hio,λ_ _ h=>h,λ_ _ h=>.inl h,zzL _⟩⟩
 .intro b' L' e' wf' af' cs' hb' hg'
  by_cases hne:b'=b
  .subst hne;rw[hb]at hb';cases hb';cases hgb _ hg';refine⟨he,c',ty,fz,hnew,hs.size.trans h2,Ab,?_,h5⟩
   intro j v hv'
   by_cases hj1:j<off
   .rw[zzj (by simp;exact Ab),zzq hj1]at hv';obtain⟨v',h6,h7⟩:=h4 j v hv';exact⟨v',by rw[hs.out _ Ab];exact h6,h7⟩
   .rw[zzr (by simp;exact Ab)]at hv';have e1:(cs.take off).length=off:=by simp;exact Ab
    rw[e1]at hv'
    by_cases hj2:j<off+vs.length
    .rw[zzj Ab]at hv';obtain⟨v',h6,h7⟩:=hv.get hv';refine⟨v',?_,h7⟩;have:=hs.inn _ _ h6;rwa [show L.off+off+(j-off)=L.off+j from Ab]at this
    .rw[zzr Ab,zzp]at hv';rw[show off+vs.length+(j-off-vs.length)=j from Ab]at hv'
     obtain⟨v',h6,h7⟩:=h4 j v hv';exact⟨v',by rw[hs.out _ Ab];exact h6,h7⟩
  .have hg2:=hget _ _ hg' hne;obtain⟨h6,c2,ty2,fz2,h7,h8,h9,h10,h11⟩:=r.cells b' L' e' wf' af' cs' hb' hg2;exact⟨h6,c2,ty2,fz2,Gh,h8,h9,h10,h11⟩
 .intro b' L' es hb' hg';have hne:b'≠b:=by rintro rfl;cases hgb _ hg'
  have hg2:=hget _ _ hg' hne;obtain⟨h6,ob,h7,h8⟩:=r.maps b' L' es hb' hg2;exact⟨h6,ob,Gh,h8⟩
 .intro b1 L1 e1 af1 cs1 hb1 hg1 b2 L2 x hb2 hx hd he2
  by_cases n1:b1=b
  .subst n1;rw[hb]at hb1;cases hb1
   by_cases n2:b2=b1
   .exact n2
   .exact absurd he2 (hother b2 L2 x hb2 (hget _ _ hx n2) hd n2)
  .have hg1':=hget _ _ hg1 n1
   by_cases n2:b2=b
   .exact Cj
   .exact r.excl b1 L1 e1 af1 cs1 hb1 hg1' b2 L2 x hb2 (hget _ _ hx n2) hd he2
 .intro b1 L1 es hb1 hg1 b2 L2 x hb2 hx hd he2;have n1:b1≠b:=by rintro rfl;cases hgb _ hg1
  have hg1':=hget _ _ hg1 n1
  by_cases n2:b2=b
  .exact Cj
  .exact r.exclm b1 L1 es hb1 hg1' b2 L2 x hb2 (hget _ _ hx n2) hd he2
 .intro b1 L1 e1 wf1 cs1 hb1 hg1 b2 L2 e2 wf2 af2 cs2 hb2 hg2 he2
  by_cases n1:b1=b
  .subst n1;rw[hb]at hb1;cases hb1
   by_cases n2:b2=b1
   .subst n2;rw[hb]at hb2;cases hb2;cases hgb _ hg1;cases hgb _ hg2;exact⟨zzL _,λ_=>rfl⟩
   .exact absurd he2 (hother b2 L2 _ hb2 (hget _ _ hg2 n2) (by simp) n2)
  .have hg1':=hget _ _ hg1 n1
   by_cases n2:b2=b
   .exact Cj
   .exact r.app b1 L1 e1 wf1 cs1 hb1 hg1' b2 L2 e2 wf2 af2 cs2 hb2 (hget _ _ hg2 n2) he2
 .rw[hw,Array.size_setIfInBounds];exact r.base
 .intro k arr hk;obtain⟨⟨ty',fz',h6⟩,h7⟩:=r.frz k arr hk;have hne:L.blk≠k:=h7 b L _ hb hg (by simp);refine⟨⟨ty',fz',by rw[hold k Ab];exact h6⟩,λb' L' x hb' hx hd=>?_⟩
  by_cases hbb:b'=b
  .subst hbb;rw[hb]at hb';cases hb';exact hne
  .exact h7 b' L' x hb' (hget _ _ hx hbb) hd
 .intro b' hb' _;simp only[Hp.put,zz4];rw[if_neg Ab]
 .intro k hk;exact hold k (λhe=>r.flr b L hb hf (by first|(rw[<- he];exact hk)|(rw[he];exact hk)))
 .rw[hw,Array.size_setIfInBounds];exact zzL _
def Rel.weak{B:Nat->Prop}{h:Hp}{w:World}(r:Rel σ Z B h w){b:Nat}{e:Nat}{wf af:Bool}{cs:List AV}
  (hg:h.tr.get b=some (.cells e wf af cs)) (hf:h.fl<=b) (y:Blk) (hy:y = .dead\/y = .cells e false false cs) :
  Rel σ Z B (h.put b y) w/\Kept Z B h w Z (h.put b y) w:=by
 have hget:∀b' x,(h.put b y).tr.get b'=some x->(b'=b/\x=y)\/(b'≠b/\h.tr.get b'=some x):=by
  intro b' x hx;simp only[Hp.put,zz4]at hx
  exact Ag
 have hold:∀b' e' wf' af' cs',(h.put b y).tr.get b'=some (.cells e' wf' af' cs')->∃wf2 af2,h.tr.get b'=some (.cells e' wf2 af2 cs')/\(wf'=true->wf2=true/\b'≠b)/\(af'=true->af2=true/\b'≠b):=Ag
 have holdm:∀b' es,(h.put b y).tr.get b'=some (.map es)->h.tr.get b'=some (.map es):=Ag
 have holdx:∀b' x,(h.put b y).tr.get b'=some x->x≠.dead->∃x',h.tr.get b'=some x'/\x'≠.dead:=Ag
 refine⟨⟨r.dom,?_,?_,?_,?_,?_,r.flr,r.base,?_,r.dn⟩,⟨λ_ _=>rfl,zzL _,rfl,?_,λ_ _=>rfl,zzL _,⟨rfl,rfl⟩,λ_ _ h=>h,λ_ _ h=>.inl h,zzL _⟩⟩
 .grind[Rel.cells]
 .grind[Rel.maps]
 .exact Dn
 .exact De
 .intro b1 L1 e1 wf1 cs1 hb1 hx1 b2 L2 e2 wf2 af2 cs2 hb2 hx2 he;obtain⟨wf3,af3,h1,h2,h3⟩:=hold b1 _ _ _ _ hx1;obtain⟨rfl,_⟩:=h3 rfl;obtain⟨wf4,af4,h4,h5,h6⟩:=hold b2 _ _ _ _ hx2;have:=r.app b1 L1 e1 wf3 cs1 hb1 h1 b2 L2 e2 wf4 af4 cs2 hb2 h4 he
  exact Ag
 .exact D8
 .intro b' hb' _;simp only[Hp.put,zz4];rw[if_neg Ab]
def Rel.grow{B:Nat->Prop}{h:Hp}{w w':World}(r:Rel σ Z B h w){b:Nat}{L:Loc}{e:Nat}{wf:Bool}{cs:List AV}(hb:Z b=some L)
  (hg:h.tr.get b=some (.cells e wf true cs)) (hf:h.fl<=b) (o:Nat) (ho:o<=cs.length) (vs:List AV) (vs':List Value) (hv:VRs σ Z vs vs') (hl:L.off+cs.length+vs.length<=L.size)
  (y:Blk) (wf2:Bool) (hy:(y = .dead/\wf2=wf)\/(y = .cells e false false cs/\wf2=false))
  {c c':Array Value}{ty:TypeId}{fz:Nat×Nat}(hc:w.heap[L.blk]?=some (.cells c ty fz)) (hs:Spl c (L.off+cs.length) vs' c')
  (hw:w'.heap=w.heap.setIfInBounds L.blk (.cells c' ty fz)) (hio:w'.os=w.os/\w'.output=w.output) :
  Rel σ (Z.add h.sz ⟨L.blk,L.off+o,L.size,e⟩) B ((h.put b y).push (.cells e wf2 true (cs.drop o++vs))) w' /\
  Kept Z B h w (Z.add h.sz ⟨L.blk,L.off+o,L.size,e⟩) ((h.put b y).push (.cells e wf2 true (cs.drop o++vs))) w':=by
 have hlen:=hv.length;have hbs:=r.dom b L hb;have hlt:L.blk<w.heap.size:=Ag
 have hold:∀k,k≠L.blk->w'.heap[k]?=w.heap[k]?:=by
  intro k hk;rw[hw,zzw];rw[if_neg Ab]
 have hnew:w'.heap[L.blk]?=some (.cells c' ty fz):=Ix
 have hext:∀b' L',Z b'=some L'->(Z.add h.sz ⟨L.blk,L.off+o,L.size,e⟩) b'=some L':=by
  intro b' L' hb';have:=r.dom b' L' hb';simp only[Ren.add];rw[if_neg Ab];exact hb'
 have hle:Z.le (Z.add h.sz ⟨L.blk,L.off+o,L.size,e⟩):=⟨hext,λ_ _ h=>h,Nat.le_max_left _ _⟩
 have hren:∀b' L',(Z.add h.sz ⟨L.blk,L.off+o,L.size,e⟩) b'=some L'->(b'=h.sz/\L'=⟨L.blk,L.off+o,L.size,e⟩)\/(b'≠h.sz/\Z b'=some L'):=by
  intro b' L' hb';simp only[Ren.add]at hb';split at hb'
  .left;exact Ae
  .right;exact Ae
 have hgn:∀x,((h.put b y).push (.cells e wf2 true (cs.drop o++vs))).tr.get h.sz=some x->x = .cells e wf2 true (cs.drop o++vs):=by
  intro x hx;simp[Hp.push,Hp.put,zz4]at hx;exact hx.symm
 have hgb:∀x,((h.put b y).push (.cells e wf2 true (cs.drop o++vs))).tr.get b=some x->x=y:=by
  intro x hx;simp only[Hp.push,Hp.put,zz4]at hx;rw[if_neg Ab]at hx;simpa using hx.symm
 have hget:∀b' x,((h.put b y).push (.cells e wf2 true (cs.drop o++vs))).tr.get b'=some x->b'≠h.sz->b'≠b->h.tr.get b'=some x:=by
  intro b' x hx h1 h2;simp only[Hp.push,Hp.put,zz4]at hx;rw[if_neg h1,if_neg h2]at hx;exact hx
 obtain⟨he,c0,ty0,fz0,h1,h2,h3,h4,h5⟩:=r.cells b L e wf true cs hb hg;rw[hc]at h1;cases h1
 -- no other living block of the row is writable
 have hnw:∀b' L' e' af' cs',Z b'=some L'->h.tr.get b'=some (.cells e' true af' cs')->b'≠b->L'.blk≠L.blk :=
  λb' L' e' af' cs' hb' hx hne heq=>Dn
 have hnm:∀b' L' es,Z b'=some L'->h.tr.get b'=some (.map es)->L'.blk≠L.blk:=by
  intro b' L' es hb' hx heq;obtain⟨_,ob,h7,h8⟩:=r.maps b' L' es hb' hx;rw[heq,hc]at h7;cases h7;exact h8.notCells
 have hexw:wf=true->∀b' L' x,Z b'=some L'->h.tr.get b'=some x->x≠.dead->b'≠b->L'.blk≠L.blk:=by
  intro hwf b' L' x hb' hx hd hne heq;subst hwf;exact Dn
 refine⟨⟨?_,?_,?_,?_,?_,?_,?_,?_,?_,⟨Nat.max_le.2 ⟨Nat.le_succ_of_le r.dn.1,zzL _⟩,?_⟩⟩,⟨?_,?_,rfl,?_,?_,?_,hio,λ_ _ h=>h,λ_ _ h=>.inl h,Nat.le_max_left _ _⟩⟩
 .intro b' L' hb';rcases hren b' L' hb' with⟨rfl,_⟩|⟨_,hb'⟩
  .exact Nat.lt_succ_self _
  .exact Nat.lt_succ_of_lt (r.dom b' L' hb')
 .intro b' L' e' wf' af' cs' hb' hg';rcases hren b' L' hb' with⟨rfl,rfl⟩|⟨hne,hb'⟩
  .cases hgn _ hg';refine⟨rfl,c',ty,fz,hnew,hs.size.trans h2,by simp;exact Ab,?_,Ag⟩
   intro j v hv'
   by_cases hj:j<cs.length-o
   .rw[zzj (by simp;exact Ab),zzp]at hv';obtain⟨v',h6,h7⟩:=h4 _ v hv';refine⟨v',?_,h7.mono hle⟩;rw[hs.out _ (by simp;exact Ab)];rw[<- h6];congr 1;simp;exact Ab
   .rw[zzr (by simp;exact Ab)]at hv';obtain⟨v',h6,h7⟩:=hv.get hv';refine⟨v',?_,h7.mono hle⟩;have:=hs.inn _ _ h6;rw[<- this];congr 1;simp;exact Ab
  .by_cases hbb:b'=b
   .subst hbb;rw[hb]at hb';cases hb';cases hgb _ hg';rcases hy with⟨hy,_⟩|⟨hy,_⟩
    .cases hy
    .cases hy;refine⟨he,c',ty,fz,hnew,hs.size.trans h2,h3,?_,Ag⟩
     intro j v hv';obtain⟨v',h6,h7⟩:=h4 _ v hv';have hj:j<cs.length:=Ag
     exact by grind[Spl.out,VR.mono]
   .have hg2:=hget _ _ hg' hne hbb;obtain⟨h6,c2,ty2,fz2,h7,h8,h9,h10,h11⟩:=r.cells b' L' e' wf' af' cs' hb' hg2
    by_cases heq:L'.blk=L.blk
    .rw[heq,hc]at h7;cases h7;have happ:=r.app b L e wf cs hb hg b' L' e' wf' af' cs' hb' hg2 heq;refine⟨h6,c',ty,fz,by rw[heq];exact hnew,hs.size.trans h8,h9,?_,h11⟩
     intro j v hv';obtain⟨v',h12,h13⟩:=h10 _ v hv';have hj:j<cs'.length:=Ag
     exact by grind[Spl.out,VR.mono]
    .refine⟨h6,c2,ty2,fz2,by rw[hold _ heq];exact h7,h8,h9,?_,h11⟩
     intro j v hv';obtain⟨v',h12,h13⟩:=h10 _ v hv';exact Cs
 .intro b' L' es hb' hg';rcases hren b' L' hb' with⟨rfl,rfl⟩|⟨hne,hb'⟩
  .cases hgn _ hg'
  .have hbb:b'≠b:=by
    rintro rfl;have:=hgb _ hg';exact Cy
   have hg2:=hget _ _ hg' hne hbb;obtain⟨h6,ob,h7,h8⟩:=r.maps b' L' es hb' hg2;exact En
 .intro b1 L1 e1 af1 cs1 hb1 hg1 b2 L2 x hb2 hx hd he2;rcases hren b1 L1 hb1 with⟨rfl,rfl⟩|⟨n1,hb1⟩
  .-- the new block is writable: so was the old one,which is dead
   cases hgn _ hg1;rcases hren b2 L2 hb2 with⟨rfl,_⟩|⟨n2,hb2⟩
   .rfl
   .by_cases m2:b2=b
    .subst m2;have:=hgb _ hx;subst this;rcases hy with⟨hy,_⟩|⟨_,hy⟩
     .exact absurd hy hd
     .cases hy
    .rcases hy with⟨_,hy⟩|⟨_,hy⟩
     .exact Ag
     .cases hy
  .have m1:b1≠b:=by
    rintro rfl;have:=hgb _ hg1;exact Cy
   have hg1':=hget _ _ hg1 n1 m1;rcases hren b2 L2 hb2 with⟨rfl,rfl⟩|⟨n2,hb2⟩
   .exact Ag
   .by_cases m2:b2=b
    .subst m2;rw[hb]at hb2;cases hb2;exact Ag
    .exact r.excl b1 L1 e1 af1 cs1 hb1 hg1' b2 L2 x hb2 (hget _ _ hx n2 m2) hd he2
 .intro b1 L1 es hb1 hg1 b2 L2 x hb2 hx hd he2;rcases hren b1 L1 hb1 with⟨rfl,rfl⟩|⟨n1,hb1⟩
  .cases hgn _ hg1
  .have m1:b1≠b:=by
    rintro rfl;have:=hgb _ hg1;exact Cy
   have hg1':=hget _ _ hg1 n1 m1;rcases hren b2 L2 hb2 with⟨rfl,rfl⟩|⟨n2,hb2⟩
   .exact Ag
   .by_cases m2:b2=b
    .subst m2;rw[hb]at hb2;cases hb2;exact Ag
    .exact r.exclm b1 L1 es hb1 hg1' b2 L2 x hb2 (hget _ _ hx n2 m2) hd he2
 .intro b1 L1 e1 wf1 cs1 hb1 hg1 b2 L2 e2 wf2' af2 cs2 hb2 hg2 he2;rcases hren b1 L1 hb1 with⟨rfl,rfl⟩|⟨n1,hb1⟩
  .cases hgn _ hg1;rcases hren b2 L2 hb2 with⟨rfl,rfl⟩|⟨n2,hb2⟩
   .cases hgn _ hg2;exact Ab
   .by_cases m2:b2=b
    .subst m2;rw[hb]at hb2;cases hb2;have:=hgb _ hg2;subst this;rcases hy with⟨hy,_⟩|⟨hy,_⟩
     .cases hy
     .cases hy;exact Ag
    .have:=r.app b L e wf cs hb hg b2 L2 e2 wf2' af2 cs2 hb2 (hget _ _ hg2 n2 m2) he2;exact Ag
  .have m1:b1≠b:=by
    rintro rfl;have:=hgb _ hg1;exact Cy
   have hg1':=hget _ _ hg1 n1 m1;rcases hren b2 L2 hb2 with⟨rfl,rfl⟩|⟨n2,hb2⟩
   .-- two blocks of a row that may be appended to: their ends are one;nothing is appended then,or they are on rows of their own
    cases hgn _ hg2;exact absurd ((r.app b1 L1 e1 wf1 cs1 hb1 hg1' b L e wf true cs hb hg he2).2 rfl).symm m1
   .by_cases m2:b2=b
    .subst m2;rw[hb]at hb2;cases hb2;have:=hgb _ hg2;subst this;rcases hy with⟨hy,_⟩|⟨hy,_⟩
     .cases hy
     .cases hy;exact⟨(r.app b1 L1 e1 wf1 cs1 hb1 hg1' b2 L e wf true cs hb hg he2).1,Ag⟩
    .exact r.app b1 L1 e1 wf1 cs1 hb1 hg1' b2 L2 e2 wf2' af2 cs2 hb2 (hget _ _ hg2 n2 m2) he2
 .intro b' L' hb' hf';rcases hren b' L' hb' with⟨rfl,rfl⟩|⟨_,hb'⟩
  .exact r.flr b L hb hf
  .exact r.flr b' L' hb' hf'
 .rw[hw,Array.size_setIfInBounds];exact r.base
 .intro k arr hk;obtain⟨⟨ty',fz',h6⟩,h7⟩:=r.frz k arr hk;have hne:L.blk≠k:=Ag
  refine⟨⟨ty',fz',by rw[hold k Ab];exact h6⟩,λb' L' x hb' hx hd=>?_⟩
  rcases hren b' L' hb' with⟨rfl,rfl⟩|⟨hn,hb'⟩
  .exact hne
  .by_cases hbb:b'=b
   .subst hbb;rw[hb]at hb';cases hb';exact hne
   .exact Ag
 .intro b' L' hb';rw[hw,Array.size_setIfInBounds];rcases hren b' L' hb' with⟨rfl,rfl⟩|⟨_,hb'⟩
  .exact r.dn.2 b L hb
  .exact r.dn.2 b' L' hb'
 .intro b' hb';simp only[Ren.add];rw[if_neg Ab]
 .exact Nat.le_succ _
 .intro b' hb' hs';have:h.fl<=b:=hf;simp only[Hp.push,Hp.put,zz4];rw[if_neg Ab,if_neg Ab]
 all_goals grind[Rel.flr]
mutual
def vrc:AV->Value->Bool
 | .b x,.bool y=>x==y
 | .i k n,.int k' m=>decide (k=k')&&decide (n=m)
 | .s x,.string y=>x==y.data.toList
 | .nilp,.pointer none=>true
 | .nils,.slice none l c=>l==0&&c==0
 | .nilf,.nilFunc=>true
 | .nili,.nilIface=>true
 | .nilm,.map none=>true
 | .fn f a c,.func (.func g) a' c'=>f==g&&qnL a a'.toList&&qnL c c'.toList
 | .ifc t v,.iface t' v'=>t==t'&&vrc v v'
 | .agg l,.agg l'=>qnL l l'.toList
 | .tup l,.tuple l'=>qnL l l'.toList
 | _,_=>false
def qnL:List AV->List Value->Bool
 | [],[]=>true
 | v::vs,v'::vs'=>vrc v v'&&qnL vs vs'
 | _,_=>false
end
mutual
theorem qp8:∀(a:AV) (v:Value),vrc a v=true->VR σ Z a v
 | .b x,v,h=>by cases v<;>simp[vrc]at h;subst h;exact .b _
 | .i k n,v,h=>by cases v<;>simp[vrc]at h;obtain⟨rfl,rfl⟩:=h;exact .i _ _
 | .s x,v,h=>by
  cases v<;>simp[vrc]at h;rename_i s;subst h;cases s;exact .s _
 | .nilp,v,h=>by
  cases v<;>first|(simp[vrc]at h;done)|skip
  rename_i a;cases a<;>first|(simp[vrc]at h;done)|exact .nilp
 | .nils,v,h=>by
  cases v<;>first|(simp[vrc]at h;done)|skip
  rename_i a l c;cases a<;>first|(simp[vrc]at h;done)|(simp[vrc]at h;obtain⟨rfl,rfl⟩:=h;exact .nils)
 | .nilf,v,h=>by cases v<;>simp[vrc]at h;exact .nilf
 | .nili,v,h=>by cases v<;>simp[vrc]at h;exact .nili
 | .nilm,v,h=>by
  cases v<;>first|(simp[vrc]at h;done)|skip
  rename_i a;cases a<;>first|(simp[vrc]at h;done)|exact .nilm
 | .fn f a c,v,h=>by
  cases v<;>first|(simp[vrc]at h;done)|skip
  rename_i fn a' c';cases fn<;>first|(simp[vrc]at h;done)|skip
  simp[vrc]at h;obtain⟨⟨rfl,h1⟩,h2⟩:=h;exact .fn _ _ _ _ _ (qda _ _ h1) (qda _ _ h2)
 | .ifc t v,v',h=>by cases v'<;>simp[vrc]at h;obtain⟨rfl,h1⟩:=h;exact .ifc _ _ _ (qp8 _ _ h1)
 | .agg l,v,h=>by cases v<;>simp[vrc]at h;exact .agg _ _ (qda _ _ h)
 | .tup l,v,h=>by cases v<;>simp[vrc]at h;exact .tup _ _ (qda _ _ h)
 | .ptr _ _,v,h=>by cases v<;>simp[vrc]at h
 | .sl _ _ _ _ _,v,h=>by cases v<;>simp[vrc]at h
 | .map _,v,h=>by cases v<;>simp[vrc]at h
 | .sym _,v,h=>by cases v<;>simp[vrc]at h
 | .undef,v,h=>.undef v
theorem qda:∀(a:List AV) (v:List Value),qnL a v=true->VRs σ Z a v
 | [],[],_=>.nil
 | v::vs,v'::vs',h=>by simp[qnL]at h;exact .cons _ _ _ _ (qp8 _ _ h.1) (qda _ _ h.2)
 | [],_::_,h=>by simp[qnL]at h
 | _::_,[],h=>by simp[qnL]at h
end
def qR:Operand->O->Bool
 | .tmp n,.t m=>n==m
 | .const v,.c a=>vrc a v
 | .func f,.c (.fn g [] [])=>f==g
 | _,_=>false
def qfZ:List Operand->List O->Bool
 | [],[]=>true
 | x::xs,y::ys=>qR x y&&qfZ xs ys
 | _,_=>false
def vl:Option Operand->Option O->Bool
 | none,none=>true
 | some x,some y=>qR x y
 | _,_=>false
def vo(P:Program)(t:TypeId):Bool:=match P.underlying t with|some (.struct _)|some (.array _ _)=>true|_=>false
def qfB(q:NK):Operand->Bool
 | .const (.pointer none)=>(match q with | .ptr=>true|_=>false)
 | .const (.slice none _ _)=>(match q with | .slice=>true|_=>false)
 | .const .nilFunc=>(match q with | .func=>true|_=>false)
 | .const .nilIface=>(match q with | .iface=>true|_=>false)
 | .const (.map none)=>(match q with | .map=>true|_=>false)
 | _=>false
def qvE(P:Program)(q:NK)(t:TypeId):Bool :=
 match P.underlying t,q with
 | some (.pointer _),.ptr|some (.slice _),.slice|some (.func ..),.func|some (.map ..),.map|some (.interface _),.iface=>true
 | _,_=>false
def qbk(P:Program)(t:TypeId)(z:List AV):Bool :=
 match P.info? t with
 | some i=>match i.zero with|some v=>qnL z v.cells.toList&&(v.cells.size==i.size)|none=>false
 | none=>false
def zA(P:Program)(t:TypeId)(n:Nat):Bool:=match P.info? t with|some i=>i.size==n|none=>false
def qeq(P:Program)(t:TypeId)(n:Nat):Bool:=match P.info? t with|some i=>i.bytes==n|none=>false
def qog(P:Program):Nat->List Field->List PK->Bool
 | _,[],[]=>true
 | i,f::fs,q::qs=>f.name != "_" && f.offset==i&&(match P.underlying f.type,q with|some .bool,.b|some (.int _),.i|some .string,.s=>true|_,_=>false)&&qog P (i+1) fs qs
 | _,_,_=>false
def qK8(P:Program)(t:TypeId)(qs:List PK):Bool :=
 match P.underlying t with
 | some (.struct fs)=>!P.stoodInHeld t && !P.eqGuardType P.depth t&&qog P 0 fs.toList qs
 | _=>false
def qat(qnn:Nat->Option (Nat×Nat)):List (Nat×Operand)->List (Nat×Nat×O)->Bool
 | [],[]=>true
 | (i,x)::xs,(off,n,y)::ys=>(qnn i==some (off,n))&&qR x y&&qat qnn xs ys
 | _,_=>false
def qD8(P:Program)(t:TypeId):Bool:=match P.underlying t with|some (.int _)|some .string=>true|_=>false
def qeu(P:Program)(t:TypeId):Option (Array Field):=match P.underlying t with|some (.struct fs)=>some fs|_=>none
def wu(P:Program)(t:TypeId):Option TypeId:=match P.underlying t with|some (.slice e)=>some e|_=>none
def qht(P:Program)(t:TypeId):Option (Nat×TypeId):=match P.underlying t with|some (.array n e)=>some (n,e)|_=>none
def qfC(P:Program)(t:TypeId):Bool:=match P.underlying t with|some .string=>true|_=>false
def qBO(P:Program)(t:TypeId)(k:IntKind):Bool:=match P.underlying t with|some (.int q)=>decide (q=k)|_=>false
def qx8(P:Program)(t:TypeId):Bool:=match P.underlying t with|some (.int _)=>true|_=>false
def qkf(P:Program)(t:TypeId):Bool:=match P.underlying t with|some .bool=>true|_=>false
def qkm(P:Program)(t:TypeId):Option (TypeId×TypeId):=match P.underlying t with|some (.map k e)=>some (k,e)|_=>none
def qpA(P:Program)(t:TypeId)(kd:Option IntKind):Bool:=match P.underlying t,kd with|some .string,none=>true|some (.int q),some q'=>decide (q=q')|_,_=>false
def qs3(P:Program)(t:TypeId)(z:AV):Bool:=match P.info? t with|some j=>(match j.zero with|some v=>vrc z v|none=>false)|none=>false
def qjf(P:Program)(t:TypeId)(kd:Option IntKind):Bool:=match qkm P t with|some (key,_)=>qpA P key kd|none=>false
def qep(P:Program)(b:Builtin)(argTypes:Array TypeId)(args:List Operand)(r:IOp):Bool :=
 match b,args,r with
 | .len,[_],.mov (.c (.i .i64 n))=>match (argTypes[0]?).bind (qht P)with|some (m,_)=>decide (n=(m:Int))|none=>false
 | .len,[x],.len str y=>qR x y&&(match argTypes[0]? with|some t=>if str then qfC P t else(wu P t).isSome|none=>false)
 | .append,[s,x],.app esz bytes _ s' x'=>qR s s'&&qR x x'&&(match argTypes[0]?,argTypes[1]? with
  | some ts,some tx=>(match wu P ts with
   | some e=>zA P e esz&&qeq P e bytes&&(match P.info? e with|some i=>(match i.zero with|some z=>z.cells.size==i.size|none=>false)|none=>false)
   | none=>false)&&(qfC P tx||(wu P tx).isSome)
  | _,_=>false)
 | .append,[s,x],.appD esz bytes s' x' _=>qR s s'&&qR x x'&&(match argTypes[0]?,argTypes[1]? with
  | some ts,some tx=>(match wu P ts with
   | some e=>zA P e esz&&qeq P e bytes&&(match P.info? e with|some i=>(match i.zero with|some z=>z.cells.size==i.size|none=>false)|none=>false)
   | none=>false)&&(qfC P tx||(wu P tx).isSome)
  | _,_=>false)
 | .max,[x,y],.max x' y'=>qR x x'&&qR y y'
 | .min,[x,y],.min x' y'=>qR x x'&&qR y y'
 | .clear,[x],.clear z y=>qR x y&&(match (argTypes[0]?).bind (wu P)with|some e=>qbk P e z|none=>false)
 | _,_,_=>false
def qmK(P:Program)(f:Option Field)(off:Nat)(n:Option Nat):Bool :=
 match f,n with
 | some fd,none=>fd.offset==off && !vo P fd.type&&(P.underlying fd.type).isSome
 | some fd,some n=>fd.offset==off&&vo P fd.type&&zA P fd.type n
 | none,_=>false
def qjN(P:Program)(o:Op)(r:IOp):Bool :=
 match o,r with
 | .move x,.mov y | .assign x,.mov y=>qR x y
 | .pick c a b,.pick c' a' b'=>qR c c'&&qR a a'&&qR b b'
 | .alloc t,.alloc z=>qbk P t z
 | .box _ x,.box y=>qR x y
 | .build t ps,.build z qs=>qbk P t z&&(match P.underlying t with
  | some (.struct fs)=>qat (λi=>(fs[i]?).bind λf=>(P.info? f.type).map λj=>(f.offset,j.size)) ps.toList qs&&fs.toList.all λf=>(P.info? f.type).isSome
  | some (.array _ e)=>(match P.info? e with|some j=>qat (λi=>some (i*j.size,j.size)) ps.toList qs|none=>false)
  | _=>false)
 | .buildSlice t n ps,.buildS m z qs=>n==m&&(match wu P t with
  | some e=>qbk P e z&&decide (n*z.length<=16777216)&&(match P.info? e with|some j=>qat (λi=>some (i*j.size,j.size)) ps.toList qs|none=>false)
  | none=>false)
 | .load t x,.load1 y=>qR x y && !vo P t&&(P.underlying t).isSome
 | .load t x,.loadN n y=>qR x y&&vo P t&&zA P t n
 | .store t x v,.store n x' v'=>qR x x'&&qR v v'&&zA P t n
 | .store t x v,.storeD n x' v' _=>qR x x'&&qR v v'&&zA P t n
 | .nilCheck x,.nilChk y=>qR x y
 | .binOp op t x y _,.bin op' x' y'=>decide (op=op')&&qR x x'&&qR y y'&&qD8 P t
 | .binOp .eql t x y _,.eqB neg x' y'=>!neg&&qR x x'&&qR y y'&&qkf P t
 | .binOp .neq t x y _,.eqB neg x' y'=>neg&&qR x x'&&qR y y'&&qkf P t
 | .binOp .eql t x y _,.eqN neg q x'=>!neg&&((qR x x'&&qfB q y)||(qR y x'&&qfB q x))&&qvE P q t
 | .binOp .neq t x y _,.eqN neg q x'=>neg&&((qR x x'&&qfB q y)||(qR y x'&&qfB q x))&&qvE P q t
 | .unOp op _ x,.un op' y=>decide (op=op')&&qR x y
 | .convert s d x,.cvInt k y=>qR x y&&(P.underlying s).isSome&&qBO P d k
 | .fieldAddr t x f,.fAddr off y=>qR x y&&(match qeu P t with|some fs=>(match fs[f]? with|some fd=>fd.offset==off && !zA P fd.type 0&&(P.info? fd.type).isSome|none=>false)|none=>false)
 | .field t x f,.fld off n y=>qR x y&&qmK P ((qeu P t).bind (·[f]?)) off n
 | .indexAddr t x ix,.iAddrA len esz x' i'=>qR x x'&&qR ix i'&&(match qht P t with|some (n,e)=>n==len&&zA P e esz|none=>false)
 | .indexAddr t x ix,.iAddrS esz x' i'=>qR x x'&&qR ix i'&&(match wu P t with|some e=>zA P e esz|none=>false)
 | .index t x ix,.idxA len esz agg x' i'=>qR x x'&&qR ix i'&&(match qht P t with|some (n,e)=>n==len&&zA P e esz&&vo P e==agg&&(P.underlying e).isSome|none=>false)
 | .index t x ix,.idxS x' i'=>qR x x'&&qR ix i'&&qfC P t
 | .slice t x lo hi mx,.slcS esz x' lo' hi' mx'=>qR x x'&&vl lo lo'&&vl hi hi'&&vl mx mx'&&(match wu P t with|some e=>zA P e esz|none=>false)
 | .slice t x lo hi none,.slcStr x' lo' hi'=>qR x x'&&vl lo lo'&&vl hi hi'&&qfC P t
 | .slice t x lo hi mx,.slcA len esz x' lo' hi' mx'=>qR x x'&&vl lo lo'&&vl hi hi'&&vl mx mx'&&(match qht P t with|some (n,e)=>n==len&&zA P e esz|none=>false)
 | .extract x i,.ext y j=>qR x y&&i==j
 | .makeFunc (.func f) a c,.mkF g a' c'=>f==g&&qfZ a.toList a'&&qfZ c.toList c'
 | .makeSlice t l c,.mkS esz bytes z l' c'=>qR l l'&&qR c c'&&(match wu P t with|some e=>zA P e esz&&qeq P e bytes&&qbk P e z|none=>false)
 | .makeMap _ none,.mkM=>true
 | .makeMap t (some (.const (.int _ _))),.mkM=>(qkm P t).isSome
 | .lookup t x i ok,.lookM kd ok' z x' i'=>qR x x'&&qR i i'&&ok==ok'&&qjf P t kd&&(match qkm P t with|some (_,e)=>qs3 P e z|none=>false)
 | .mapUpdate t m i v,.updM kd m' i' v'=>qR m m'&&qR i i'&&qR v v'&&qjf P t kd
 | .insert t m i v,.updM kd m' i' v'=>qR m m'&&qR i i'&&qR v v'&&qjf P t kd
 | _,.no=>true
 | .call { callee:=.builtin b,args,argTypes },r=>qep P b argTypes args.toList r
 | _,_=>false
def qhx(P:Program)(o:Op)(r:RK):Bool :=
 match o,r with
 | .call { callee:=.value (.func f),args,.. },.callF g bs=>f==g&&qfZ args.toList bs
 | .call { callee:=.value x,args,.. },.callV y bs=>qR x y&&qfZ args.toList bs
 | .call { callee:=.value (.func f),args,.. },.callW g bs=>f==g&&qfZ args.toList bs
 | .call { callee:=.value x,args,.. },.callVW y bs=>qR x y&&qfZ args.toList bs
 | o,.op r=>qjN P o r
 | _,_=>false
def TR(σ:Nat->Value)(Z:Ren)(t:Tr AV)(tm:Array Value):Prop:=∀n v,t.get n=some v->n<tm.size/\VR σ Z v (tm.getD n undef)
theorem TR.mono{t:Tr AV}{tm:Array Value}(h:TR σ Z t tm)(hZ:Z.le Z'):TR σ Z' t tm :=
 λn v hv=>⟨(h n v hv).1,(h n v hv).2.mono hZ⟩
def zx{t:Tr AV}{a:Act}(ht:TR σ Z t a.tmps){x:O}{y:Operand}(hc:qR y x=true){k:AV->Prop}(h:evK t x k):∃v,k v/\VR σ Z v (a.eval y):=by
 cases x with
 | t n =>
  obtain⟨v,hv,hk⟩:=(Tr.getK_iff _ _ _).1 h;cases y<;>simp[qR]at hc;subst hc;exact⟨v,hk,(ht _ v hv).2⟩
 | c v =>
  refine⟨v,h,?_⟩;cases y with
  | tmp n=>simp[qR]at hc
  | const u=>exact qp8 v u (by simpa[qR]using hc)
  | global g=>simp[qR]at hc
  | func f =>
   have:v = .fn f [] []:=by
    unfold qR at hc;split at hc<;>simp_all
   subst this;exact .fn _ _ _ _ _ .nil .nil
def qji{t:Tr AV}{a:Act}(ht:TR σ Z t a.tmps):∀{xs:List O}{ys:List Operand}(_:qfZ ys xs=true) {k:List AV->Prop}(_:qaq t xs k),∃vs,k vs/\VRs σ Z vs (ys.map a.eval)
 | [],[],_,_,h=>⟨[],h,.nil⟩
 | x::xs,y::ys,hc,k,h=>by
  simp[qfZ]at hc;obtain⟨v,h1,hv⟩:=zx ht hc.1 h;obtain⟨vs,h2,hvs⟩:=qji ht hc.2 h1;exact⟨v::vs,h2,.cons _ _ _ _ hv hvs⟩
 | [],_::_,hc,_,_=>by simp[qfZ]at hc
 | _::_,[],hc,_,_=>by simp[qfZ]at hc
end
section
variable {σ:Nat->Value}{Z Z':Ren}{P:Program}
def qag(σ:Nat->Value):Prop:=∀j,(σ j).oneCell'=true
theorem qkV(hσ:qag σ){v:AV}{v':Value}(h:VR σ Z v v')(hc:zM v=true):v'.oneCell'=true:=by
 cases h<;>first|rfl|(exact hσ _)|(exact absurd hc (by simp[zM]))
def qgu(hσ:qag σ):∀{vs:List AV}{vs':List Value}(_:VRs σ Z vs vs') (_:qQ vs=true),∀v ∈ vs',v.oneCell'=true
 | [],_,.nil,_=>by simp
 | v::vs,_,.cons _ _ v' vs' h hs,hc=>by
  have h2:zM v=true/\qQ vs=true:=by
   have:(Bool.rec (motive:=λ_=>Bool) true (qQ vs) (zM v):Bool)=true\/True:=Or.inr trivial
   have hc':(Bool.rec (motive:=λ_=>Bool) false (qQ vs) (zM v):Bool)=true:=hc
   cases h1:zM v<;>simp_all
  intro u hu;rcases zzc.1 hu with rfl|hu
  .grind[qkV]
  .exact qgu hσ hs h2.2 u hu
theorem qde{w:World}{k:Nat}{c:Array Value}{ty:TypeId}{fz:Nat×Nat}(h:w.heap[k]?=some (.cells c ty fz))(o:Nat):w.cell? ⟨k,o,none⟩=c[o]?:=by
 simp[World.cell?,h]
def qjk{w:World}{k:Nat}{c:Array Value}{ty:TypeId}{fz:Nat×Nat}(h:w.heap[k]?=some (.cells c ty fz))(o:Nat):w.frozen? ⟨k,o,none⟩=decide (fz.1<=o/\o<fz.2):=by
 simp[World.frozen?,h]
theorem jM(k o n:Nat):(⟨k,o,none⟩:Addr).add n=⟨k,o+n,none⟩:=by
 unfold Addr.add;split<;>simp_all
def qDU{B:Nat->Prop}{h:Hp}{w:World}(r:Rel σ Z B h w){b off:Nat}{L:Loc}(hb:Z b=some L){k:AV->Prop}(hk:ldK h b off k) :
  ∃v v',k v/\VR σ Z v v'/\w.cell? ⟨L.blk,L.off+off,none⟩=some v':=by
 obtain⟨e,wf,af,cs,hg,hn⟩:=(zC _ _ _).1 hk;obtain⟨v,hv,hk⟩:=(wn _ _ _).1 hn;obtain⟨_,c,ty,fz,h1,_,_,h4,_⟩:=r.cells b L e wf af cs hb hg
 grind[qde]
def qjo{B:Nat->Prop}{h:Hp}{w:World}(r:Rel σ Z B h w){b off n:Nat}{L:Loc}(hb:Z b=some L){k:List AV->Prop}(hk:qfG h b off n k) :
  ∃vs vs',k vs/\VRs σ Z vs vs'/\vs'.length=n/\(∀j v,vs'[j]?=some v->w.cell? ⟨L.blk,L.off+off+j,none⟩=some v):=by
 obtain⟨e,wf,af,cs,hg,hn⟩:=(zC _ _ _).1 hk;obtain⟨hl,hn⟩:=(xo _ _ _).1 hn;obtain⟨hl2,hk⟩:=(xe _ _ _).1 hn;rw[List.length_drop]at hl2;obtain⟨_,c,ty,fz,h1,h2,h3,h4,_⟩:=r.cells b L e wf af cs hb hg;refine⟨_,((c.toList.drop (L.off+off)).take n),hk,?_,?_,?_⟩
 .refine VRs.of_get ?_ ?_
  .simp;exact Ab
  .intro j a ha;rw[List.getElem?_take]at ha;split at ha
   .rw[zzp]at ha;obtain⟨v',h5,h6⟩:=h4 _ _ ha;refine⟨v',?_,h6⟩;rw[zzq (by assumption),zzp];rw[Array.getElem?_toList,<- h5];congr 1;exact Ab
   .cases ha
 all_goals grind[qde]
def qF0{B:Nat->Prop}{h:Hp}{w:World}(r:Rel σ Z B h w){p:AV}{p':Value}(hp:VR σ Z p p'){k:AV->Prop}(hk:ldV h p k) :
  ∃c o v v',p' = .pointer (some ⟨c,o,none⟩)/\k v/\VR σ Z v v'/\w.cell? ⟨c,o,none⟩=some v':=by
 cases hp<;>try exact hk.elim
 .rename_i b o L hb;obtain⟨v,v',h1,h2,h3⟩:=qDU r hb hk
  exact Ag
 .rename_i off base cs c arr hf hs;obtain⟨v,hv,hk⟩:=(wn _ _ _).1 hk;obtain⟨v',h1,h2⟩:=hs.get hv;obtain⟨⟨ty,fz,h3⟩,_⟩:=r.frz c arr hf;refine⟨c,base+off,v,v',rfl,hk,h2.vr,?_⟩;rw[qde h3];rw[List.getElem?_take]at h1
  exact Ae
def qBV{B:Nat->Prop}{h:Hp}{w:World}(r:Rel σ Z B h w){p:AV}{p':Value}(hp:VR σ Z p p'){n:Nat}{k:List AV->Prop}(hk:qlZ h p n k) :
  ∃c o vs vs',p' = .pointer (some ⟨c,o,none⟩)/\k vs/\VRs σ Z vs vs'/\vs'.length=n/\(∀j v,vs'[j]?=some v->w.cell? ⟨c,o+j,none⟩=some v):=by
 cases hp<;>try exact hk.elim
 .rename_i b o L hb;obtain⟨vs,vs',h1,h2,h3,h4⟩:=qjo r hb hk
  exact Ag
 .rename_i off base cs c arr hf hs;obtain⟨h1,hk⟩:=(xo _ _ _).1 hk;obtain⟨h2,hk⟩:=(xe _ _ _).1 hk;obtain⟨⟨ty,fz,h3⟩,_⟩:=r.frz c arr hf;rw[List.length_drop]at h2;have hlen:=hs.length;refine⟨c,base+off,_,_,rfl,hk,((hs.drop off).take n).vr,?_,?_⟩
  all_goals grind[qde]
theorem qfl{w:World}{k o n:Nat}{vs:List Value}(hl:vs.length=n)(h:∀j v,vs[j]?=some v->w.cell? ⟨k,o+j,none⟩=some v) :
  (loadCells ⟨k,o,none⟩ n).run P w = .ok vs.toArray w:=by
 grind[Go.run_loadCells_list,jM]
def qea{k:Nat}{ty:TypeId}{fz:Nat×Nat}:∀(vs:List Value) (o:Nat) (w:World) (c:Array Value),w.heap[k]?=some (.cells c ty fz)->o+vs.length<=c.size->
  ∃c',Spl c o vs c'/\(w.setCells k o vs).heap=w.heap.setIfInBounds k (.cells c' ty fz)
 | [],o,w,c,h,_=>by
  refine⟨c,⟨rfl,λ_ _=>rfl,Ae⟩,?_⟩
  show w.heap=_
  exact Ag
 | v::vs,o,w,c,h,hl=>by
  simp only[zze]at hl;have hlt:k<w.heap.size:=Ag
  have e1:(w.setCell ⟨k,o,none⟩ v).heap=w.heap.setIfInBounds k (.cells (c.setIfInBounds o v) ty fz):=by
   simp only[World.setCell]
   exact Ag
  have h1:(w.setCell ⟨k,o,none⟩ v).heap[k]?=some (.cells (c.setIfInBounds o v) ty fz):=by
   rw[e1,zzw];exact Ag
  obtain⟨c',hs,hw⟩:=qea vs (o+1) _ _ h1 Ag;refine⟨c',⟨by rw[hs.size];simp,?_,?_⟩,?_⟩
  .intro j hj;simp only[zze]at hj;rw[hs.out j Ab,zzw,if_neg Ab]
  .intro j u hu;cases j with
   | zero =>
    simp at hu;subst hu;rw[hs.out _ Ab,zzw];exact Ag
   | succ j =>
    have:=hs.inn j u Ae;rwa [show o+1+j=o+(j+1)from Ab]at this
  .rw[World.setCells,hw,e1]
   exact Ae
def qfm(k:Nat):∀(vs:List Value) (o:Nat) (w:World),(w.setCells k o vs).os=w.os/\(w.setCells k o vs).output=w.output
 | [],_,_=>⟨rfl,rfl⟩
 | v::vs,o,w=>qfm k vs (o+1) (w.setCell ⟨k,o,none⟩ v)
def qzZ(hσ:qag σ){B:Nat->Prop}{h:Hp}{w:World}(r:Rel σ Z B h w){b off:Nat}{L:Loc}(hb:Z b=some L){vs:List AV}{vs':List Value}(hv:VRs σ Z vs vs'){k:Hp->Prop}(hk:stK h b off vs k) :
  ∃h' w',k h'/\Rel σ Z B h' w'/\Kept Z B h w Z h' w'/\(storeCells ⟨L.blk,L.off+off,none⟩ vs').run P w = .ok () w':=by
 obtain⟨e,wf,af,cs,hg,hn⟩:=(zC _ _ _).1 hk;cases wf with
 | false=>exact Ae
 | true =>
  have hn':(Bool.rec (motive:=λ_=>Prop) False (wH vs off cs (λcs'=>qd9 h b (.cells e true af cs') k)) (qQ vs):Prop):=hn
  cases hco:qQ vs with
  | false=>rw[hco]at hn';exact Ae
  | true =>
   rw[hco]at hn';obtain⟨hl,hn2⟩:=(vj _ _ _ _).1 hn';obtain⟨hf,hk⟩:=(qaE _ _ _ _).1 hn2;obtain⟨_,c,ty,fz,h1,h2,h3,h4,h5⟩:=r.cells b L e true af cs hb hg;have hlen:=hv.length;obtain⟨c',hs,hw⟩:=qea vs' (L.off+off) w c h1 Ab;obtain⟨r',k'⟩:=r.store hb hg hf off vs vs' hv hl h1 hs hw (qfm _ _ _ _);refine⟨_,w.setCells L.blk (L.off+off) vs',hk,r',k',?_⟩
   have:=run_storeCells_cells (P:=P) L.blk (L.off+off) vs' 0 w (λj hj=>by
     rw[qde h1];simp;exact Ab) (λj hj=>by
     rw[qjk h1];simp only[decide_eq_false_iff_not];exact h5 (by simp) _ Ab) (qgu hσ hv hco)
   exact Ab
def qh7{B:Nat->Prop}{h:Hp}{w w1:World}(r:Rel σ Z B h w){e:Nat}{wf af:Bool}{cs:List AV}{c:Array Value}{ty:TypeId}(hc:∃z:List Value,c.toList=z/\VRs σ Z cs (z.take cs.length))
  {k:Nat->Hp->Prop}(hk:vg h (.cells e wf af cs) k) {fz:Nat×Nat}(hw:w1.heap=w.heap.push (.cells c ty fz)) (hfz:∀j,(j<c.size\/(e=0/\j=c.size))->¬(fz.1<=j/\j<fz.2):=by intro j _ hj;exact absurd hj.2 (Nat.not_lt_zero _)) (hio:w1.os=w.os/\w1.output=w.output:=by exact⟨rfl,rfl⟩) :
  ∃Z' h',k h.sz h'/\Rel σ Z' B h' w1/\Kept Z B h w Z' h' w1/\Z' h.sz=some ⟨w.heap.size,0,c.size,e⟩:=by
 obtain⟨z,rfl,hv⟩:=hc;have hl:=hv.length;simp at hl;obtain⟨r',k'⟩:=r.push e wf af cs c ty fz hfz hw hio Ab (by grind[VRs.get])
 grind[xJ,Ren.add_self]
def Res(P:Program)(σ:Nat->Value)(Z:Ren)(B:Nat->Prop)(h:Hp)(w:World)(s:Sem Next)(k:AV->Hp->Prop):Prop :=
 ∃v v' h' Z' w',k v h'/\(s.run P w = .ok (.value v') w'\/(s.run P w = .ok .skip w'/\v'=undef))/\VR σ Z' v v'/\Rel σ Z' B h' w'/\Kept Z B h w Z' h' w'
theorem Res.pure{B:Nat->Prop}{h:Hp}{w:World}(r:Rel σ Z B h w){s:Sem Next}{k:AV->Hp->Prop}{v:AV}{v':Value}(hk:k v h)(hs:s.run P w = .ok (.value v') w)(hv:VR σ Z v v'):Res P σ Z B h w s k :=
 ⟨v,v',h,Z,w,hk,.inl hs,hv,r,Kept.refl _ _ _ _⟩
structure OrcOk (P:Program) (σ:Nat->Value) (orc:Orc):Prop where
 atoms:qag σ
 bin:∀op x y r,orc.bin op x y=some r->∀Z x' y',VR σ Z x x'->VR σ Z y y'->∃r',VR σ Z r r'/\∀(P:Program) t w,(binOp op t x' y').run P w = .ok r' w
 len:∀j r,orc.len j=some r->∃s,σ j = .string s/\∀Z,VR σ Z r (.int .i64 s.size)
 cv:∀q j r,orc.cv q j=some r->∃k n,σ j = .int k n/\∀Z,VR σ Z r (.int q (q.wrap n))
 prim:∀j,(∃k n,σ j = .int k n)\/(∃s,σ j = .string s)\/(∃b,σ j = .bool b)
def qgV{r r':Bool}(h:r=r'):VR σ Z (.b r) (.bool r'):=by subst h;exact .b _
def qve{op:BinOp}{q:IntKind}{x y:Int}{k:AV->Prop}(h:x4 op q x y k)(t:TypeId)(w:World) :
  ∃r r',k r/\VR σ Z r r'/\(binOp op t (.int q x) (.int q y)).run P w = .ok r' w:=by
 have hne:∀{y:Int}{A:Prop},(Bool.rec (motive:=λ_=>Prop) A False (eqI y 0):Prop)->A/\y≠0:=by
  intro y A hh;rw[qjg]at hh;cases hc:(y==0)<;>simp_all
 cases op<;>simp only[x4,z6,zi,qeT]at h
 case add=>exact⟨_,_,h,.i _ _,by simp[binOp,Op.intArith]⟩
 case sub=>exact⟨_,_,h,.i _ _,by simp[binOp,Op.intArith];rfl⟩
 case mul=>exact⟨_,_,h,.i _ _,by simp[binOp,Op.intArith]⟩
 case quo=>exact Gl
 case rem=>exact Gl
 case and=>exact Du
 case or=>exact Du
 case xor=>exact Du
 case andNot=>exact Du
 case eql=>exact⟨_,_,h,qgV (qjg x y),Dy⟩
 case neq=>exact⟨_,_,h,qgV (r':=x != y) (by rw[qjg];rfl),Dy⟩
 case lss=>exact⟨_,_,h,qgV (qdQ x y),Dy⟩
 case leq=>exact⟨_,_,h,qgV (r':=decide (x<=y)) (by rw[qdQ,<- decide_not];simp),Dy⟩
 case gtr=>exact⟨_,_,h,qgV (qdQ y x),Dy⟩
 case geq=>exact⟨_,_,h,qgV (r':=decide (y<=x)) (by rw[qdQ,<- decide_not];simp),Dy⟩
def qzV{op:BinOp}(ho:op = .shl\/op = .shr){q q':IntKind}{x y:Int}{k:AV->Prop}(h:qll op q x y k)(t:TypeId)(w:World) :
  ∃r r',k r/\VR σ Z r r'/\(binOp op t (.int q x) (.int q' y)).run P w = .ok r' w:=by
 cases y with
 | negSucc m=>exact h.elim
 | ofNat m =>
  have hn:¬((m:Int)<0):=Ab
  rcases ho with rfl|rfl
  .have h':(qE (min m q.bits) (λn=>jH (q.wrap (x*p2 n)) (λr=>k (.i q r)))):=h
   exact Hc
  .have h':(qE (min m q.bits) (λn=>jH (x.fdiv (p2 n)) (λr=>k (.i q r)))):=h
   exact Hc
def qv7{op:BinOp}{x y:List UInt8}{k:AV->Prop}(h:qct op x y k)(t:TypeId)(w:World) :
  ∃r r',k r/\VR σ Z r r'/\(binOp op t (.string ⟨x.toArray⟩) (.string ⟨y.toArray⟩)).run P w = .ok r' w:=by
 have tl:∀l:List UInt8,(⟨l.toArray⟩:ByteArray).toList=l:=Ae
 cases op<;>simp only[qct,zi]at h<;>try exact h.elim
 case add =>
  rw[qhj]at h
  by_cases hl:x.length+y.length<=9223372036854775807
  .simp only[hl,decide_true]at h;refine⟨_,_,h,.s _,?_⟩
   have h3:¬(IntKind.max .i64<(((⟨x.toArray⟩:ByteArray).size+(⟨y.toArray⟩:ByteArray).size:Nat):Int)):=by
    show¬((9223372036854775807:Int)<((x.length+y.length:Nat):Int));exact Ab
   simp only[binOp,Op.stringOp];rw[if_neg h3];simp only[Sem.run_pure]
   congr 2
  exact Ae
 case eql=>exact⟨_,_,h,qgV (qcP x y),C6⟩
 case neq=>exact⟨_,_,h,qgV (r':=!(x==y)) (by rw[qcP]),C6⟩
 case lss=>exact⟨_,_,h,qgV (qk7 x y),C6⟩
 case leq=>exact⟨_,_,h,qgV (r':=(Op.bytesLess x y||x==y)) (by rw[qk7,qcP]),C6⟩
 case gtr=>exact⟨_,_,h,qgV (r':=!(Op.bytesLess x y||x==y)) (by rw[qk7,qcP]),C6⟩
 case geq=>exact⟨_,_,h,qgV (r':=!(Op.bytesLess x y)) (by rw[qk7]),C6⟩
def qL{t:TypeId}{d:TypeDesc}(h:P.underlying t=some d)(w:World):(underlying t).run P w = .ok d w:=run_underlying h w
def qef{t:TypeId}(h:(P.underlying t).isSome=true)(w:World):(isAgg t).run P w = .ok (vo P t) w:=by
 obtain⟨d,hd⟩:=zzx.1 h;unfold isAgg vo;simp only[Sem.run_bind,qL hd,Result.andThen_ok,hd];cases d<;>rfl
def qlG{t:TypeId}(h:vo P t=true):(P.underlying t).isSome=true:=by
 unfold vo at h;split at h<;>simp_all
def qoW{t:TypeId}{n:Nat}(h:zA P t n=true):∃i,P.info? t=some i/\i.size=n:=by
 unfold zA at h
 exact Ag
def qmG{t:TypeId}{n:Nat}(h:qeq P t n=true):∃i,P.info? t=some i/\i.bytes=n:=by
 unfold qeq at h
 exact Ag
def qx7{t:TypeId}{i:TypeInfo}(h:P.info? t=some i)(w:World):(typeInfo t).run P w = .ok i w:=by
 simp[typeInfo,h]
def xy{t:TypeId}{n:Nat}(h:zA P t n=true)(w:World):(sizeOf t).run P w = .ok n w:=by
 obtain⟨i,hi,rfl⟩:=qoW h;simp[sizeOf,typeInfo,hi]
def qgq{t:TypeId}{z:List AV}(h:qbk P t z=true):∃i v,P.info? t=some i/\i.zero=some v/\qnL z v.cells.toList=true/\v.cells.size=i.size:=by
 unfold qbk at h
 exact Ag
def qdF{t:TypeId}{i:TypeInfo}{v:Value}(h:P.info? t=some i)(hz:i.zero=some v)(w:World):(zeroValue t).run P w = .ok v w:=by
 simp[zeroValue,typeInfo,h,hz]
def jd{t e:TypeId}(h:wu P t=some e):P.underlying t=some (.slice e):=by
 unfold wu at h;exact Ag
def qen{t:TypeId}{n:Nat}{e:TypeId}(h:qht P t=some (n,e)):P.underlying t=some (.array n e):=by
 unfold qht at h;exact Ag
def qfs{t:TypeId}{fs:Array Field}(h:qeu P t=some fs):P.underlying t=some (.struct fs):=by
 unfold qeu at h;exact Ag
def qdx{t:TypeId}(h:qfC P t=true):P.underlying t=some .string:=by
 unfold qfC at h;exact Ag
def qvf{t:TypeId}{k:IntKind}(h:qBO P t k=true):P.underlying t=some (.int k):=by
 unfold qBO at h;exact Ag
def qkp{t:TypeId}(cs:Array Value)(off:Nat)(w:World) :
  (∀{v},vo P t=false->(P.underlying t).isSome=true->cs[off]?=some v->(part t cs off).run P w = .ok v w) /\
  (∀{n},vo P t=true->zA P t n=true->(part t cs off).run P w = .ok (.agg (cs.extract off (off+n))) w):=by
 constructor
 .intro v h1 h2 h3;simp[part,qef h2,h1,h3]
 .intro n h1 h2;simp[part,qef (qlG h1),h1,xy h2]
def VR.un_b{x:Bool}{v:Value}(h:VR σ Z (.b x) v):v = .bool x:=by cases h;rfl
def VR.un_i{q:IntKind}{n:Int}{v:Value}(h:VR σ Z (.i q n) v):v = .int q n:=by cases h;rfl
def VR.un_s{x:List UInt8}{v:Value}(h:VR σ Z (.s x) v):v = .string ⟨x.toArray⟩:=by cases h;rfl
def VR.un_ptr{b o:Nat}{v:Value}(h:VR σ Z (.ptr b o) v):∃L,Z b=some L/\v = .pointer (some ⟨L.blk,L.off+o,none⟩):=by cases h<;>simp_all
def VR.un_sl{b o len cap:Nat}{l:Bool}{v:Value}(h:VR σ Z (.sl b o len cap l) v):∃L c off,Z b=some L/\v = .slice (some ⟨L.blk,off,none⟩) len c /\
  ((off=L.off+o/\(c=cap\/(l=true/\cap<=c/\L.off+o+c*L.esz<=L.size)))\/(len=0/\cap=0/\c=0)):=by
 cases h<;>grind
def VR.un_agg{cs:List AV}{v:Value}(h:VR σ Z (.agg cs) v):∃vs:Array Value,VRs σ Z cs vs.toList/\v = .agg vs:=by cases h<;>simp_all
theorem VR.un_tup{cs:List AV}{v:Value}(h:VR σ Z (.tup cs) v):∃vs:Array Value,VRs σ Z cs vs.toList/\v = .tuple vs:=by cases h<;>simp_all
def VR.un_fn{f:Nat}{a c:List AV}{v:Value}(h:VR σ Z (.fn f a c) v):∃a' c':Array Value,VRs σ Z a a'.toList/\VRs σ Z c c'.toList/\v = .func (.func f) a' c':=by cases h<;>simp_all
def VR.un_yl{b:Nat}{v:Value}(h:VR σ Z (.yl b) v):∃L,Z b=some L/\v = .func (.yield L.blk) #[] #[]:=by cases h<;>simp_all
def VR.un_map{b:Nat}{v:Value}(h:VR σ Z (.map b) v):∃L,Z b=some L/\L.off=0/\v = .map (some L.blk):=by cases h<;>simp_all
theorem VR.un_nils{v:Value}(h:VR σ Z .nils v):v = .slice none 0 0:=by cases h;rfl
def VR.un_fz{n:Nat}{cs:List AV}{v:Value}(h:VR σ Z (.fz n cs) v):(∃k off c arr,v = .slice (some ⟨k,off,none⟩) n c/\n<=c/\Z.frz k=some arr/\CRs σ Z.frz cs ((arr.toList.drop off).take cs.length))\/(n=0/\cs=[]/\∃a,v = .slice a 0 0):=by
 cases h<;>grind
def VR.un_pf{off:Nat}{cs:List AV}{v:Value}(h:VR σ Z (.pf cs off) v):∃k base arr,v = .pointer (some ⟨k,base+off,none⟩)/\Z.frz k=some arr/\CRs σ Z.frz cs ((arr.toList.drop base).take cs.length):=by
 cases h<;>grind
def VR.un_nz{v:Value}(h:VR σ Z .nz v):∃a c,v = .slice (some a) 0 c:=by cases h<;>simp_all
theorem VR.un_e0{v:Value}(h:VR σ Z .e0 v):∃a,v = .slice a 0 0:=by cases h<;>simp_all
def VR.un_own{b n:Nat}{v:Value}(h:VR σ Z (.own b n) v):(n=0/\(∃a,v = .slice a 0 0)/\b<Z.n)\/∃L c,Z b=some L/\n<=c/\L.off+c*L.esz<=L.size/\v = .slice (some ⟨L.blk,L.off,none⟩) n c:=by
 cases h<;>simp_all
def qtB{p:AV}{p':Value}(hp:VR σ Z p p'){n:Nat}{k:AV->Prop}(hk:qjr p n k):∃c o v,p' = .pointer (some ⟨c,o,none⟩)/\k v/\VR σ Z v (.pointer (some ⟨c,o+n,none⟩)):=by
 cases p<;>try exact hk.elim
 .obtain⟨L,h1,h2⟩:=hp.un_ptr;simp only[qjr,qO]at hk;exact⟨_,_,_,h2,hk,by rw[Nat.add_assoc];exact .ptr _ _ L h1⟩
 .obtain⟨c,base,arr,h1,h2,h4⟩:=hp.un_pf;simp only[qjr,qO]at hk;exact⟨_,_,_,h1,hk,by rw[Nat.add_assoc];exact .pf _ base _ c arr h2 h4⟩
def VR.un_sym{j:Nat}{v:Value}(h:VR σ Z (.sym j) v):v=σ j:=by cases h;rfl
def qnJ{v:AV}{v':Value}(h:VR σ Z v v'){k:Bool->Prop}(hk:unB v k):∃x,v' = .bool x/\k x:=by
 cases v<;>first|exact hk.elim|exact⟨_,h.un_b,hk⟩
def qp6{v:AV}{v':Value}(h:VR σ Z v v'){k:IntKind->Int->Prop}(hk:unI v k):∃q x,v' = .int q x/\k q x:=by
 cases v<;>first|exact hk.elim|exact⟨_,_,h.un_i,hk⟩
def qfQ{v:AV}{v':Value}(h:VR σ Z v v'){k:Nat->Prop}(hk:unN v k):∃q,∃x:Nat,v' = .int q (x:Int)/\k x:=by
 cases v<;>try exact hk.elim
 rename_i q n;cases n with
 | ofNat m=>exact⟨q,m,h.un_i,hk⟩
 | negSucc m=>exact hk.elim
def qsL{v:AV}{v':Value}(h:VR σ Z v v'){k:Nat->Nat->Prop}(hk:unP v k):∃b o L,Z b=some L/\v' = .pointer (some ⟨L.blk,L.off+o,none⟩)/\k b o:=by
 cases v<;>first|exact hk.elim|(obtain⟨L,h1,h2⟩:=h.un_ptr;exact⟨_,_,L,h1,h2,hk⟩)
theorem qf(x:Bool)(k:Prop):qv x k↔x=true/\k:=by
 cases x
 .exact⟨λh=>h.elim,λh=>Ag⟩
 .exact⟨λh=>⟨rfl,h⟩,λh=>h.2⟩
theorem qfV(x:Bool)(a b:Prop):(Bool.rec (motive:=λ_=>Prop) a b x)↔(x=false/\a)\/(x=true/\b):=by
 cases x<;>simp
def qCw{t:Tr AV}{a:Act}(ht:TR σ Z t a.tmps){x:Option O}{y:Option Operand}(hc:vl y x=true){k:Option AV->Prop}(h:qbg t x k) :
  ∃v,k v/\((v=none/\y=none)\/∃u y',v=some u/\y=some y'/\VR σ Z u (a.eval y')):=by
 cases x<;>cases y<;>simp[vl]at hc
 .exact⟨none,h,.inl ⟨rfl,rfl⟩⟩
 .obtain⟨v,h1,h2⟩:=zx ht hc h
  exact Ag
section ops
variable {B:Nat->Prop}{h:Hp}{w:World}{a:Act}{t:Tr AV}{orc:Orc}{k:AV->Hp->Prop}{o:Oper}
def qyS(r:Rel σ Z B h w)(ht:TR σ Z t a.tmps){x:O}{y:Operand}(ho:o.op = .move y\/o.op = .assign y)(hc:qR y x=true)(hk:opK orc (.mov x) t h k):Res P σ Z B h w (execOp a.eval o) k:=by
 obtain⟨v,h1,h2⟩:=zx ht hc hk;exact Res.pure r h1 (by rcases ho with ho|ho<;>simp[execOp,ho]) h2
def qCz(r:Rel σ Z B h w)(ht:TR σ Z t a.tmps){c x y:O}{c' x' y':Operand}(ho:o.op = .pick c' x' y')(hc1:qR c' c=true)(hc2:qR x' x=true)(hc3:qR y' y=true)(hk:opK orc (.pick c x y) t h k):Res P σ Z B h w (execOp a.eval o) k:=by
 obtain⟨v,h1,h2⟩:=zx ht hc1 hk;obtain⟨b,h3,h4⟩:=qnJ h2 h1;cases b with
 | true=>obtain⟨v,h5,h6⟩:=zx ht hc2 h4;exact Jm
 | false=>obtain⟨v,h5,h6⟩:=zx ht hc3 h4;exact Jm
def qyA(r:Rel σ Z B h w)(ht:TR σ Z t a.tmps){x:O}{ty:TypeId}{y:Operand}(ho:o.op = .load ty y)(hc:qR y x=true)(h1:vo P ty=false)(h2:(P.underlying ty).isSome=true)(hk:opK orc (.load1 x) t h k):Res P σ Z B h w (execOp a.eval o) k:=by
 obtain⟨v,h3,h4⟩:=zx ht hc hk;obtain⟨c,off,v,v',h6,h8,h9,h10⟩:=qF0 r h4 h3;exact Res.pure r h8 (by simp[execOp,ho,h6,Instr.loadAt,Instr.sureAddr,loadVar,qef h2,h1,h10]) h9
def qyC(r:Rel σ Z B h w)(ht:TR σ Z t a.tmps){x:O}{n:Nat}{ty:TypeId}{y:Operand}(ho:o.op = .load ty y)(hc:qR y x=true)(h1:vo P ty=true)(h2:zA P ty n=true)(hk:opK orc (.loadN n x) t h k):Res P σ Z B h w (execOp a.eval o) k:=by
 obtain⟨v,h3,h4⟩:=zx ht hc hk;obtain⟨c,off,vs,vs',h6,h8,h9,h10,h11⟩:=qBV r h4 h3;exact Res.pure r h8 (by simp[execOp,ho,h6,Instr.loadAt,Instr.sureAddr,loadVar,qef (qlG h1),h1,xy h2,qfl h10 h11]) (.agg _ _ h9)
theorem VRs.cells(hσ:qag σ){v:AV}{v':Value}(hv:VR σ Z v v')(hu:qdJ v=true):VRs σ Z (cellsOf v) v'.cells.toList:=by
 have one:∀{v'},VR σ Z v v'->v'.cells = #[v']->cellsOf v=[v]->VRs σ Z (cellsOf v) v'.cells.toList:=by
  intro v' h1 h2 h3;rw[h2,h3];exact .cons _ _ _ _ h1 .nil
 cases hv with
 | undef=>cases hu
 | agg cs cs' h1=>exact h1
 | sym j =>
  refine one (.sym j) ?_ rfl;have:=hσ j;cases hs:σ j<;>simp[hs,Value.oneCell']at this<;>rfl
 | b=>exact one (.b _) rfl rfl
 | i=>exact one (.i _ _) rfl rfl
 | s=>exact one (.s _) rfl rfl
 | nilp=>exact one .nilp rfl rfl
 | ptr b o L h=>exact one (.ptr b o L h) rfl rfl
 | nils=>exact one .nils rfl rfl
 | sl b o len cap c loose L h hc=>exact one (.sl b o len cap c loose L h hc) rfl rfl
 | slz b o x l L h=>exact one (.slz b o x l L h) rfl rfl
 | nilf=>exact one .nilf rfl rfl
 | fn f first cap a1 a2 h1 h2=>exact one (.fn f first cap a1 a2 h1 h2) rfl rfl
 | nili=>exact one .nili rfl rfl
 | ifc t v v' h=>exact one (.ifc t v v' h) rfl rfl
 | tup cs cs' h=>exact one (.tup cs cs' h) rfl rfl
 | nilm=>exact one .nilm rfl rfl
 | map b L h h0=>exact one (.map b L h h0) rfl rfl
 | fz n off c cs k arr hn h hs=>exact one (.fz n off c cs k arr hn h hs) rfl rfl
 | fz0 a=>exact one (.fz0 a) rfl rfl
 | pf off base cs k arr h hs=>exact one (.pf off base cs k arr h hs) rfl rfl
 | e0 a=>exact one (.e0 a) rfl rfl
 | nz a c=>exact one (.nz a c) rfl rfl
 | own0 b a hb=>exact one (.own0 b a hb) rfl rfl
 | own b n c L h hn hc=>exact one (.own b n c L h hn hc) rfl rfl
 | yl b L h=>exact one (.yl b L h) rfl rfl
def qwq(r:Rel σ Z B h w){z:List AV}{ty:TypeId}(ho:o.op = .alloc ty)(hc:qbk P ty z=true)(hk:opK orc (.alloc z) t h k):Res P σ Z B h w (execOp a.eval o) k:=by
 obtain⟨i,v,h1,h2,h3,h4⟩:=qgq hc;have hv:=qda (σ:=σ) (Z:=Z) _ _ h3;have hl:=hv.length;have hk':vg h (.cells 0 true false z) (λb h'=>k (.ptr b 0) h'):=hk
 obtain⟨Z',h',h5,h6,h7,h8⟩:=qh7 (w1:={ w with heap:=w.heap.push (.cells v.cells ty) }) r (c:=v.cells) Ag hk' rfl;refine⟨_,_,h',Z',_,h5,.inl (?_:_=Result.ok (Next.value (.pointer (some ⟨w.heap.size,0,none⟩))) { w with heap:=w.heap.push (.cells v.cells ty) }),.ptr _ 0 _ h8,h6,h7⟩;simp[execOp,ho,Instr.alloc,qdF h1 h2,newVar,newRow]
def qET(hσ:qag σ)(r:Rel σ Z B h w)(ht:TR σ Z t a.tmps){x:O}{y:Operand}{ty:TypeId}(ho:o.op = .box ty y)(hc:qR y x=true)(hk:opK orc (.box x) t h k):Res P σ Z B h w (execOp a.eval o) k:=by
 obtain⟨v,h1,h2⟩:=zx ht hc hk;obtain⟨hd,h1⟩:=(qf _ _).1 h1;have hv:=VRs.cells hσ h2 hd;have hl:=hv.length;obtain⟨Z',h',h5,h6,h7,h8⟩:=qh7 (w1:={ w with heap:=w.heap.push (.cells (a.eval y).cells ty) }) r (c:=(a.eval y).cells) Ag h1 rfl;refine⟨_,_,h',Z',_,h5,.inl (?_:_=Result.ok (Next.value (.pointer (some ⟨w.heap.size,0,none⟩))) { w with heap:=w.heap.push (.cells (a.eval y).cells ty) }),.ptr _ 0 _ h8,h6,h7⟩;simp[execOp,ho,Instr.box,newVar,newRow]
def qrL(hσ:qag σ)(r:Rel σ Z B h w)(ht:TR σ Z t a.tmps){x v:O}{n:Nat}{y u:Operand}{ty:TypeId}(ho:o.op = .store ty y u)(hc:qR y x=true)(hc2:qR u v=true)(hs:zA P ty n=true)(hk:opK orc (.store n x v) t h k):Res P σ Z B h w (execOp a.eval o) k:=by
 obtain⟨p,h1,h2⟩:=zx ht hc hk;obtain⟨b,off,L,h3,h4,h5⟩:=qsL h2 h1;obtain⟨q,h6,h7⟩:=zx ht hc2 h5;obtain⟨hd,h6⟩:=(qf _ _).1 h6;rw[ka]at h6;obtain⟨hn,h6⟩:=(qf _ _).1 h6;have hv:=VRs.cells hσ h7 hd;have hl:=hv.length;obtain⟨h',w',h8,h9,h10,h11⟩:=qzZ (P:=P) hσ r h3 hv h6;refine⟨_,_,h',Z,w',h8,.inr ⟨?_,rfl⟩,.undef _,h9,h10⟩;have hn':(cellsOf q).length=n:=Ae
 have hsz:(a.eval u).cells.size=n:=Ae
 simp[execOp,ho,h4,Instr.storeAt,Instr.sureAddr,storeVar,xy hs,h11,hsz]
def qvD(r:Rel σ Z B h w)(ht:TR σ Z t a.tmps){x:O}{y:Operand}(ho:o.op = .nilCheck y)(hc:qR y x=true)(hk:opK orc (.nilChk x) t h k):Res P σ Z B h w (execOp a.eval o) k:=by
 obtain⟨v,h1,h2⟩:=zx ht hc hk;cases v<;>try exact h1.elim
 .obtain⟨L,h3,h4⟩:=h2.un_ptr;exact Res.pure r h1 (by simp[execOp,ho,h4]) (.ptr _ _ L h3)
 .obtain⟨a',c',h3,h4,h5⟩:=h2.un_fn;exact Res.pure r h1 (by simp[execOp,ho,h5]) (.fn _ _ _ _ _ h3 h4)
 .obtain⟨L,h3,h4,h5⟩:=h2.un_map;exact Res.pure r h1 (by simp[execOp,ho,h5]) (.map _ L h3 h4)
 .obtain⟨c,base,arr,h3,h4,h6⟩:=h2.un_pf;exact Res.pure r h1 (by simp[execOp,ho,h3]) (.pf _ base _ c arr h4 h6)
 .obtain⟨L,h3,h4⟩:=h2.un_yl;exact Res.pure r h1 (by simp[execOp,ho,h4]) (.yl _ L h3)
end ops
theorem qgx{op:BinOp}{t:TypeId}{x y:Operand}{u v:Value}(hu:∀cs,u≠.agg cs)(hu2:u≠.nilIface)(w:World):(eqGuard op t x y u v).run P w = .ok () w:=by
 cases u<;>first|exact absurd rfl hu2|exact absurd rfl (hu _)|(cases op<;>simp[eqGuard])
def qpu(d:Nat){t:TypeId}(hu:P.underlying t=some .bool)(p q:Bool)(w:World):(Op.equalIn (d+1) t (.bool p) (.bool q)).run P w = .ok (p==q) w:=by
 rw[Op.equalIn];simp[qL hu]
def qsg{t:TypeId}(hu:P.underlying t=some .bool)(p q:Bool)(w:World):(Op.equal t (.bool p) (.bool q)).run P w = .ok (p==q) w:=qpu 9999 hu p q w
section ops
variable {B:Nat->Prop}{h:Hp}{w:World}{a:Act}{t:Tr AV}{orc:Orc}{k:AV->Hp->Prop}{o:Oper}
def qAB(ho:OrcOk P σ orc){op:BinOp}{x y:AV}{x' y':Value}(hx:VR σ Z x x')(hy:VR σ Z y y'){k:AV->Prop}(hk:x9 orc op x y k){ty:TypeId}(w:World) :
  ∃r r',k r/\VR σ Z r r'/\(binOp op ty x' y').run P w = .ok r' w/\(∀cs,x'≠.agg cs)/\x'≠.nilIface:=by
 have orcOk:∀{q:AV}{x y:AV},orc.bin op x y=some q->VR σ Z x x'->VR σ Z y y'->k q->∃r r',k r/\VR σ Z r r'/\(binOp op ty x' y').run P w = .ok r' w:=by
  grind[OrcOk.bin]
 have orcK_ok:∀{m:Option AV},qjw m k->∃q,m=some q/\k q:=by
  intro m hm;cases m with
  | none=>exact hm.elim
  | some q=>exact⟨q,rfl,hm⟩
 cases x<;>try exact hk.elim
 case i q n =>
  have ex:=hx.un_i;subst ex;cases y<;>try exact hk.elim
  case i q' m =>
   have ey:=hy.un_i;subst ey;have hnn:(∀cs,Value.int q n≠.agg cs)/\Value.int q n≠.nilIface:=⟨Ae,Ae⟩
   by_cases hs:op = .shl\/op = .shr
   .have hk':qll op q n m k:=by rcases hs with rfl|rfl<;>exact hk
    obtain⟨r,r',h1,h2,h3⟩:=qzV (P:=P) (σ:=σ) (Z:=Z) hs (q':=q') hk' ty w
    exact Ag
   .have hk':qv (decide (q=q')) (x4 op q n m k):=by cases op<;>first|exact hk|simp at hs
    obtain⟨h1,h2⟩:=(qf _ _).1 hk';have:q=q':=Ex
    subst this;obtain⟨r,r',h1,h2,h3⟩:=qve (P:=P) (σ:=σ) (Z:=Z) h2 ty w
    exact Ag
  case sym j =>
   obtain⟨q',h1,h2⟩:=orcK_ok hk
   exact Ag
 case s l =>
  have ex:=hx.un_s;subst ex;cases y<;>try exact hk.elim
  case s l' =>
   have ey:=hy.un_s;subst ey;obtain⟨r,r',h1,h2,h3⟩:=qv7 (P:=P) (σ:=σ) (Z:=Z) hk ty w
   exact Ag
  case sym j =>
   obtain⟨q',h1,h2⟩:=orcK_ok hk
   exact Ag
 case sym j =>
  obtain⟨q',h1,h2⟩:=orcK_ok hk;obtain⟨r,r',h3,h4,h5⟩:=orcOk h1 hx hy h2;cases hx with
  | sym =>
   refine⟨r,r',h3,h4,h5,?_,?_⟩
   .intro cs hh;have:=ho.atoms j;rw[hh]at this;cases this
   .intro hh;rcases ho.prim j with⟨_,_,e⟩|⟨_,e⟩|⟨_,e⟩<;>rw[e]at hh<;>cases hh
theorem qjS{op:BinOp}{ty uy:TypeId}{x y:Operand}{r:Value}(ho:o.op = .binOp op ty x y uy)(hg:(eqGuard op ty x y (a.eval x) (a.eval y)).run P w = .ok () w)(hr:(binOp op ty (a.eval x) (a.eval y)).run P w = .ok r w) :
  (execOp a.eval o).run P w = .ok (.value r) w:=by
 simp[execOp,ho,hg,hr]
def qEQ(horc:OrcOk P σ orc)(r:Rel σ Z B h w)(ht:TR σ Z t a.tmps){op:BinOp}{x y:O}{x' y':Operand}{ty uy:TypeId}(ho:o.op = .binOp op ty x' y' uy)(hc1:qR x' x=true)(hc2:qR y' y=true)(hk:opK orc (.bin op x y) t h k):Res P σ Z B h w (execOp a.eval o) k:=by
 obtain⟨u,h1,h2⟩:=zx ht hc1 hk;obtain⟨v,h3,h4⟩:=zx ht hc2 h1;obtain⟨q,q',h5,h6,h7,h8,h9⟩:=qAB (P:=P) horc h2 h4 h3 (ty:=ty) w;exact Res.pure r h5 (by grind[qjS,qgx]) h6
def qxw(r:Rel σ Z B h w)(ht:TR σ Z t a.tmps){neg:Bool}{op:BinOp}(hop:(op = .eql/\neg=false)\/(op = .neq/\neg=true)){x y:O}{x' y':Operand}{ty uy:TypeId}(ho:o.op = .binOp op ty x' y' uy)(hc1:qR x' x=true)(hc2:qR y' y=true)(hb:qkf P ty=true)(hk:opK orc (.eqB neg x y) t h k):Res P σ Z B h w (execOp a.eval o) k:=by
 obtain⟨u,h1,h2⟩:=zx ht hc1 hk;obtain⟨v,h3,h4⟩:=zx ht hc2 h1;obtain⟨p,h5,h6⟩:=qnJ h2 h3;obtain⟨q,h7,h8⟩:=qnJ h4 h6
 have hu:P.underlying ty=some .bool:=by
  unfold qkf at hb;split at hb
  .assumption
  .cases hb
 rw[zi]at h8;refine Res.pure r h8 (qjS (r:=.bool (xor neg (p==q))) ho (qgx (by rw[h5];intro _ hh;cases hh) (by rw[h5];intro hh;cases hh) w) ?_) (.b _);rw[h5,h7];rcases hop with⟨rfl,rfl⟩|⟨rfl,rfl⟩<;>simp[binOp,qsg hu]
def qKW(r:Rel σ Z B h w)(ht:TR σ Z t a.tmps){op:UnOp}{x:O}{y:Operand}{ty:TypeId}(ho:o.op = .unOp op ty y)(hc:qR y x=true)(hk:opK orc (.un op x) t h k):Res P σ Z B h w (execOp a.eval o) k:=by
 obtain⟨v,h1,h2⟩:=zx ht hc hk;cases op
 .cases v<;>try exact h1.elim
  have e:=h2.un_i;have h1':=h1;simp only[qfq,z6]at h1';exact Res.pure r h1' (by simp[execOp,ho,e,Op.unary,Op.intArith]) (.i _ _)
 .cases v<;>try exact h1.elim
  have e:=h2.un_i;have h1':=h1;simp only[qfq,z6]at h1';exact Res.pure r h1' (by simp[execOp,ho,e,Op.unary,Op.intBits]) (.i _ _)
 .cases v<;>try exact h1.elim
  have e:=h2.un_b;have h1':=h1;simp only[qfq,zi]at h1';exact Res.pure r h1' (by simp[execOp,ho,e,Op.unary]) (.b _)
 .exact h1.elim
def qxo(horc:OrcOk P σ orc)(r:Rel σ Z B h w)(ht:TR σ Z t a.tmps){q:IntKind}{x:O}{y:Operand}{s d:TypeId}(ho:o.op = .convert s d y)(hc:qR y x=true)(hs:(P.underlying s).isSome=true)(hd:qBO P d q=true)(hk:opK orc (.cvInt q x) t h k):Res P σ Z B h w (execOp a.eval o) k:=by
 obtain⟨v,h1,h2⟩:=zx ht hc hk;obtain⟨ds,hs⟩:=zzx.1 hs
 have key:∃r' p n,k r' h/\a.eval y = .int p n/\VR σ Z r' (.int q (q.wrap n)):=by
  cases v<;>try exact h1.elim
  case i p n =>
   have e:=h2.un_i;have h4:jH (qkO q n) (λr=>k (.i q r) h):=h1
   rw[z6,qeT]at h4;exact⟨_,p,n,h4,e,.i _ _⟩
  case sym j =>
   have h4:qjw (orc.cv q j) (λv=>k v h):=h1
   have e:=h2.un_sym;cases hq:orc.cv q j with
   | none=>rw[hq]at h4;exact h4.elim
   | some r' =>
    rw[hq]at h4;obtain⟨p,n,h5,h6⟩:=horc.cv _ _ _ hq;exact⟨r',p,n,h4,e.trans h5,h6 Z⟩
 obtain⟨r',p,n,h4,h3,h5⟩:=key;refine Res.pure r h4 (v':=.int q (q.wrap n)) ?_ h5;simp only[execOp,ho,convert,Sem.run_bind,qL hs,qL (qvf hd),Result.andThen_ok,h3];cases ds<;>simp[Conv.intToInt]
def qxE(r:Rel σ Z B h w)(ht:TR σ Z t a.tmps){off f:Nat}{x:O}{y:Operand}{ty:TypeId}(ho:o.op = .fieldAddr ty y f)(hc:qR y x=true){fs:Array Field}(h1:qeu P ty=some fs){fd:Field}(h2:fs[f]?=some fd)(h3:fd.offset=off)(h4:zA P fd.type 0=false)(h5:(P.info? fd.type).isSome=true)(hk:opK orc (.fAddr off x) t h k):Res P σ Z B h w (execOp a.eval o) k:=by
 obtain⟨v,h6,h7⟩:=zx ht hc hk;obtain⟨b,o',u,h9,h10,h8⟩:=qtB h7 h6;obtain⟨i,hi⟩:=zzx.1 h5;have hz:i.size≠0:=by unfold zA at h4;rw[hi]at h4;exact Ae
 refine Res.pure r h10 (v':=.pointer (some ⟨b,o'+off,none⟩)) ?_ h8;simp[execOp,ho,Instr.fieldAt,qL (qfs h1),h2,h9,Instr.sureAddr,fieldPlace,sizeOf,typeInfo,hi,hz,jM,h3]
def qFH(r:Rel σ Z B h w)(ht:TR σ Z t a.tmps){off f:Nat}{n:Option Nat}{x:O}{y:Operand}{ty:TypeId}(ho:o.op = .field ty y f)(hc:qR y x=true)(hf:qmK P ((qeu P ty).bind (·[f]?)) off n=true)(hk:opK orc (.fld off n x) t h k):Res P σ Z B h w (execOp a.eval o) k:=by
 obtain⟨v,h1,h2⟩:=zx ht hc hk;cases v<;>try exact h1.elim
 rename_i cs;obtain⟨vs,h3,h4⟩:=h2.un_agg;cases hfs:qeu P ty with
 | none=>rw[hfs]at hf;cases n<;>cases hf
 | some fs =>
  rw[hfs]at hf;cases hfd:fs[f]? with
  | none=>simp[hfd,qmK]at hf
  | some fd =>
   simp only[Option.bind_some,hfd]at hf;cases n with
   | none =>
    simp[qmK]at hf;have h1':qjt cs off (λv=>k v h):=h1
    obtain⟨v,h5,h6⟩:=(wn _ _ _).1 h1';obtain⟨v',h7,h8⟩:=h3.get h5;refine Res.pure r h6 (v':=v') ?_ h8;have hp:=(qkp (P:=P) (t:=fd.type) vs fd.offset w).1 (v:=v') hf.1.2 hf.2 (by rw[hf.1.1];exact Ae);simp[execOp,ho,Instr.field,qL (qfs hfs),hfd,h4,asAgg,hp]
   | some n =>
    simp[qmK]at hf;have h1':qdX off cs (λl=>qdD n l (λl=>k (.agg l) h)):=h1
    obtain⟨h5,h6⟩:=(xo _ _ _).1 h1';obtain⟨h7,h8⟩:=(xe _ _ _).1 h6;have hp:=(qkp (P:=P) (t:=fd.type) vs fd.offset w).2 (n:=n) hf.1.2 hf.2;refine Res.pure r h8 (v':=.agg (vs.extract off (off+n))) ?_ (.agg _ _ ?_)
    .rw[hf.1.1]at hp;simp[execOp,ho,Instr.field,qL (qfs hfs),hfd,h4,asAgg,hp,hf.1.1]
    simp_all[VRs.take,VRs.drop]
def qva(r:Rel σ Z B h w)(ht:TR σ Z t a.tmps){len esz:Nat}{x i:O}{x' i':Operand}{ty e:TypeId}(ho:o.op = .indexAddr ty x' i')(hc1:qR x' x=true)(hc2:qR i' i=true)(h1:qht P ty=some (len,e))(h2:zA P e esz=true)(hk:opK orc (.iAddrA len esz x i) t h k):Res P σ Z B h w (execOp a.eval o) k:=by
 obtain⟨v,h3,h4⟩:=zx ht hc1 hk;obtain⟨u,h8,h9⟩:=zx ht hc2 h3;obtain⟨q,n,h10,h11⟩:=qfQ h9 h8;obtain⟨h12,h13⟩:=(qf _ _).1 h11;obtain⟨b,o',u2,h6,h14,h5⟩:=qtB h4 h13;have hlt:n<len:=by rw[qhj]at h12;exact Ag
 refine Res.pure r h14 (v':=.pointer (some ⟨b,o'+n*esz,none⟩)) ?_ h5;simp[execOp,ho,Instr.indexAt,h6,h10,asIntOf,qL (qen h1),Instr.sureAddr,hlt,xy h2,jM]
def qvb(r:Rel σ Z B h w)(ht:TR σ Z t a.tmps){esz:Nat}{x i:O}{x' i':Operand}{ty e:TypeId}(ho:o.op = .indexAddr ty x' i')(hc1:qR x' x=true)(hc2:qR i' i=true)(h1:wu P ty=some e)(h2:zA P e esz=true)(hk:opK orc (.iAddrS esz x i) t h k):Res P σ Z B h w (execOp a.eval o) k:=by
 obtain⟨v,h3,h4⟩:=zx ht hc1 hk;cases v<;>try exact h3.elim
 rotate_left
 .rename_i len cs;obtain⟨u,h8,h9⟩:=zx ht hc2 h3;obtain⟨q,n,h10,h11⟩:=qfQ h9 h8;obtain⟨h12,h13⟩:=(qf _ _).1 h11;rw[qO]at h13;have hlt:n<len:=by rw[qhj]at h12;exact Ag
  rcases h4.un_fz with⟨k0,off,c,arr,h5,_,h6,h14⟩|⟨h5,_⟩
  .refine Res.pure r h13 (v':=.pointer (some ⟨k0,off+n*esz,none⟩)) ?_ (.pf _ off _ k0 arr h6 h14);simp[execOp,ho,Instr.indexAt,h5,h10,asIntOf,qL (jd h1),hlt,xy h2,jM]
  .exact Ab
 .rename_i b len;obtain⟨u,h8,h9⟩:=zx ht hc2 h3;obtain⟨q,n,h10,h11⟩:=qfQ h9 h8;obtain⟨h12,h13⟩:=(qf _ _).1 h11;rw[qO]at h13;have hlt:n<len:=by rw[qhj]at h12;exact Ag
  rcases h4.un_own with⟨h5,_,_⟩|⟨L,c,h5,h6,h7,h14⟩
  .exact Ab
  .refine Res.pure r h13 (v':=.pointer (some ⟨L.blk,L.off+n*esz,none⟩)) ?_ (.ptr _ _ L h5);simp[execOp,ho,Instr.indexAt,h14,h10,asIntOf,qL (jd h1),hlt,xy h2,jM]
 rename_i b o' len cap loose;obtain⟨L,c,off,h5,h7,h6⟩:=h4.un_sl;obtain⟨u,h8,h9⟩:=zx ht hc2 h3;obtain⟨q,n,h10,h11⟩:=qfQ h9 h8;obtain⟨h12,h13⟩:=(qf _ _).1 h11;rw[qO]at h13;have hlt:n<len:=by rw[qhj]at h12;exact Ag
 have hoff:off=L.off+o':=by rcases h6 with⟨h6,_⟩|⟨h6,_,_⟩<;>omega
 subst hoff;refine Res.pure r h13 (v':=.pointer (some ⟨L.blk,L.off+(o'+n*esz),none⟩)) ?_ (.ptr _ _ L h5);simp[execOp,ho,Instr.indexAt,h7,h10,asIntOf,qL (jd h1),hlt,xy h2,jM,Nat.add_assoc]
end ops
def qpc(l:List UInt8):(ByteArray.mk l.toArray).size=l.length:=by simp[ByteArray.size]
def qEM(l:List UInt8)(n:Nat):(ByteArray.mk l.toArray)[n]?=l[n]?:=by
 by_cases h:n<l.length
 .have h2:n<(ByteArray.mk l.toArray).size:=by simpa[ByteArray.size]using h
  rw[getElem?_pos (ByteArray.mk l.toArray) n h2,zzE h];rfl
 .have h2:¬n<(ByteArray.mk l.toArray).size:=by simpa[ByteArray.size]using h
  rw[getElem?_neg (ByteArray.mk l.toArray) n h2,List.getElem?_eq_none Ab]
section ops
variable {B:Nat->Prop}{h:Hp}{w:World}{a:Act}{t:Tr AV}{orc:Orc}{k:AV->Hp->Prop}{o:Oper}
def qBK(r:Rel σ Z B h w)(ht:TR σ Z t a.tmps){len esz:Nat}{agg:Bool}{x i:O}{x' i':Operand}{ty e:TypeId}(ho:o.op = .index ty x' i')(hc1:qR x' x=true)(hc2:qR i' i=true)(h1:qht P ty=some (len,e))(h2:zA P e esz=true)(hag:vo P e=agg)(hu:(P.underlying e).isSome=true)(hk:opK orc (.idxA len esz agg x i) t h k):Res P σ Z B h w (execOp a.eval o) k:=by
 obtain⟨v,h3,h4⟩:=zx ht hc1 hk;cases v<;>try exact h3.elim
 rename_i cs;obtain⟨vs,h5,h6⟩:=h4.un_agg;obtain⟨u,h8,h9⟩:=zx ht hc2 h3;obtain⟨q,n,h10,h11⟩:=qfQ h9 h8;obtain⟨h12,h13⟩:=(qf _ _).1 h11;rw[qO]at h13;have hlt:n<len:=by rw[qhj]at h12;exact Ag
 cases agg with
 | false =>
  have h14:qjt cs (n*esz) (λv=>k v h):=h13
  obtain⟨v,h15,h16⟩:=(wn _ _ _).1 h14;obtain⟨v',h17,h18⟩:=h5.get h15;have hp:=(qkp (P:=P) (t:=e) vs (n*esz) w).1 (v:=v') hag hu Ae;refine Res.pure r h16 (v':=v') ?_ h18;exact Hw
 | true =>
  have h14:qdX (n*esz) cs (λl=>qdD esz l (λl=>k (.agg l) h)):=h13
  obtain⟨_,h15⟩:=(xo _ _ _).1 h14;obtain⟨_,h16⟩:=(xe _ _ _).1 h15;have hp:=(qkp (P:=P) (t:=e) vs (n*esz) w).2 (n:=esz) hag h2;refine Res.pure r h16 (v':=.agg (vs.extract (n*esz) (n*esz+esz))) ?_ (.agg _ _ ?_)
  .exact Hw
  simp_all[VRs.take,VRs.drop]
def qBL(r:Rel σ Z B h w)(ht:TR σ Z t a.tmps){x i:O}{x' i':Operand}{ty:TypeId}(ho:o.op = .index ty x' i')(hc1:qR x' x=true)(hc2:qR i' i=true)(h1:qfC P ty=true)(hk:opK orc (.idxS x i) t h k):Res P σ Z B h w (execOp a.eval o) k:=by
 obtain⟨v,h3,h4⟩:=zx ht hc1 hk;cases v<;>try exact h3.elim
 rename_i l;have h6:=h4.un_s;obtain⟨u,h8,h9⟩:=zx ht hc2 h3;obtain⟨q,n,h10,h11⟩:=qfQ h9 h8;cases hg:l[n]? with
 | none=>rw[hg]at h11;exact Ae
 | some c =>
  rw[hg]at h11;refine Res.pure r h11 (v':=.int .u8 (c.toNat:Int)) ?_ (.i _ _);have hn:n<l.length:=Ag
  have hb:=(qEM l n).trans hg;simp[execOp,ho,Instr.index,h6,h10,asIntOf,qL (qdx h1),hb]
def qFy(r:Rel σ Z B h w)(ht:TR σ Z t a.tmps){x:O}{i:Nat}{y:Operand}(ho:o.op = .extract y i)(hc:qR y x=true)(hk:opK orc (.ext x i) t h k):Res P σ Z B h w (execOp a.eval o) k:=by
 obtain⟨v,h1,h2⟩:=zx ht hc hk;cases v<;>try exact h1.elim
 rename_i cs;obtain⟨vs,h3,h4⟩:=h2.un_tup;have h1':qjt cs i (λv=>k v h):=h1
 obtain⟨v,h5,h6⟩:=(wn _ _ _).1 h1';obtain⟨v',h7,h8⟩:=h3.get h5;exact Res.pure r h6 (by simp only[Array.getElem?_toList]at h7;simp[execOp,ho,h4,Instr.extract,h7]) h8
def qGl(r:Rel σ Z B h w)(ht:TR σ Z t a.tmps){f:Nat}{xs cs:List O}{ys ds:Array Operand}(ho:o.op = .makeFunc (.func f) ys ds)(hc1:qfZ ys.toList xs=true)(hc2:qfZ ds.toList cs=true)(hk:opK orc (.mkF f xs cs) t h k):Res P σ Z B h w (execOp a.eval o) k:=by
 obtain⟨vs,h1,h2⟩:=qji ht hc1 hk;obtain⟨us,h3,h4⟩:=qji ht hc2 h1;exact Res.pure r h3 (v':=.func (.func f) (ys.map a.eval) (ds.map a.eval)) (by simp[execOp,ho,Instr.makeFunc]) (.fn _ _ _ _ _ Ae Ae)
def qvl(r:Rel σ Z B h w){ty:TypeId}{y:Operand}{n:Nat}{m:Int}{args:Array TypeId}{ops:Array Operand}(ho:o.op = .call ⟨.builtin .len,ops,args⟩)(hops:ops.toList=[y])(hr:args[0]?=some ty){e:TypeId}(h1:qht P ty=some (n,e))(hm:m=(n:Int))(hk:opK orc (.mov (.c (.i .i64 m))) t h k):Res P σ Z B h w (execOp a.eval o) k:=by
 subst hm;have hk':k (.i .i64 (n:Int)) h:=hk;obtain rfl:ops = #[y]:=Ag
 exact Res.pure r hk' (v':=.int .i64 n) (by simp[execOp,ho,resolve,invoke,builtin,Builtin.len_,hr,qL (qen h1),goInt]) (.i _ _)
def qF5(horc:OrcOk P σ orc)(r:Rel σ Z B h w)(ht:TR σ Z t a.tmps){str:Bool}{ty:TypeId}{x:O}{y:Operand}{args:Array TypeId}{ops:Array Operand}(ho:o.op = .call ⟨.builtin .len,ops,args⟩)(hops:ops.toList=[y])(hr:args[0]?=some ty)(h1:(if str then qfC P ty else(wu P ty).isSome)=true)(hc:qR y x=true)(hk:opK orc (.len str x) t h k):Res P σ Z B h w (execOp a.eval o) k:=by
 obtain⟨v,h2,h3⟩:=zx ht hc hk;obtain rfl:ops = #[y]:=Ag
 cases str with
 | false =>
  obtain⟨e,he⟩:=zzx.1 Ex;have hu:=jd he;cases v<;>try exact h2.elim
  .have e':=h3.un_nils;exact Res.pure r (v:=.i .i64 0) h2 As (.i _ _)
  .obtain⟨L,c,_,_,e',_⟩:=h3.un_sl;exact Res.pure r (v:=.i .i64 (Int.ofNat _)) h2 As (.i _ _)
  .rcases h3.un_fz with⟨k0,off,c,arr,e',_⟩|⟨rfl,_,a0,e'⟩
   .exact Res.pure r (v:=.i .i64 (Int.ofNat _)) h2 As (.i _ _)
   .exact Res.pure r (v:=.i .i64 (Int.ofNat _)) h2 As (.i _ _)
  .obtain⟨a0,e'⟩:=h3.un_e0;exact Res.pure r (v:=.i .i64 0) h2 As (.i _ _)
  .rcases h3.un_own with⟨rfl,⟨a0,e'⟩,_⟩|⟨L,c,_,_,_,e'⟩
   .exact Res.pure r (v:=.i .i64 (Int.ofNat _)) h2 As (.i _ _)
   .exact Res.pure r (v:=.i .i64 (Int.ofNat _)) h2 As (.i _ _)
  .obtain⟨a0,c0,e'⟩:=h3.un_nz;exact Res.pure r (v:=.i .i64 0) h2 As (.i _ _)
 | true =>
  have hu:=qdx (P:=P) (t:=ty) Ae;cases v<;>try exact h2.elim
  .have e':=h3.un_s;have h2':qE _ _:=h2;rw[qO]at h2';exact Res.pure r (v:=.i .i64 (Int.ofNat _)) h2' (by simp[execOp,ho,resolve,invoke,builtin,Builtin.len_,hr,qL hu,e',goInt,qpc]) (.i _ _)
  .rename_i j;have h2':qjw (orc.len j) (λv=>k v h):=h2
   cases hq:orc.len j with
   | none=>rw[hq]at h2';exact h2'.elim
   | some q =>
    rw[hq]at h2';obtain⟨s,hs,hv⟩:=horc.len _ _ hq;have e':a.eval y = .string s:=h3.un_sym.trans hs;exact Res.pure r h2' As (hv _)
def qGf(r:Rel σ Z B h w)(ht:TR σ Z t a.tmps){x y:O}{x' y':Operand}{args:Array TypeId}{ops:Array Operand}(ho:o.op = .call ⟨.builtin .max,ops,args⟩)(hops:ops.toList=[x',y'])(hc:qR x' x=true)(hc2:qR y' y=true)(hk:opK orc (.max x y) t h k):Res P σ Z B h w (execOp a.eval o) k:=by
 obtain⟨u,h1,h2⟩:=zx ht hc hk;obtain⟨v,h3,h4⟩:=zx ht hc2 h1;obtain rfl:ops = #[x',y']:=Ag
 obtain⟨q,n,h5,h6⟩:=qp6 h2 h3;obtain⟨q',m,h7,h8⟩:=qp6 h4 h6
 have hrun:(execOp a.eval o).run P w = .ok (.value (.int q (if m > n then m else n))) w:=by
  simp[execOp,ho,resolve,invoke,builtin,Builtin.max_,Builtin.max2,h5,h7]
 rw[qdQ]at h8
 by_cases hlt:n<m
 .exact Fs
 .exact Fp
end ops
def qwg(σ:Nat->Value)(Z:Ren)(v:Option AV)(y:Option Value):Prop:=(v=none/\y=none)\/∃u y',v=some u/\y=some y'/\VR σ Z u y'
def ql7{v:Option AV}{y:Option Value}(hv:qwg σ Z v y){d top topR:Nat}(ht:top<=topR){k:Nat->Prop}(hk:qjM v d top k)(code:Instr.sliceBound=Instr.sliceBound->BoundsCode)(w:World) :
  ∃n,k n/\((v=none/\y=none/\n=d)\/∃u,y=some u/\v≠none/\n<=top/\(Instr.sliceBound u topR (code rfl)).run P w = .ok n w):=by
 rcases hv with⟨rfl,rfl⟩|⟨u,y',rfl,rfl,hv⟩
 .exact⟨d,hk,Ae⟩
 .have hk':unN u (λn=>qv (Nat.ble n top) (qE n k)):=hk
  obtain⟨q,n,e,h1⟩:=qfQ hv hk';obtain⟨h2,h3⟩:=(qf _ _).1 h1;rw[qO]at h3;rw[qhj]at h2;have h4:n<=top:=Ae
  refine⟨n,h3,.inr ⟨_,rfl,by simp,h4,?_⟩⟩
  have:(0:Int)<=n/\(n:Int)<=topR:=Ab
  simp[Instr.sliceBound,e,asIntOf,this]
def wX{lo hi mx:Option AV}{lo' hi' mx':Option Value}(h1:qwg σ Z lo lo')(h2:qwg σ Z hi hi')(h3:qwg σ Z mx mx'){len cap capR:Nat}(hc:cap<=capR){k:Nat->Nat->Nat->Prop}(hk:xG len cap lo hi mx k)(isSlice:Bool)(w:World) :
  ∃l h m mR,k l h m/\(Instr.sliceBounds isSlice len capR lo' hi' mx').run P w = .ok (l,h,mR) w/\l<=h/\h<=m/\m<=cap/\((mx=none/\m=cap/\mR=capR)\/(mx≠none/\mR=m)):=by
 have hk':qjM mx cap cap (λm=>Option.rec (motive:=λ_=>Prop) (Option.rec (motive:=λ_=>Prop) (qv (Nat.ble len m) (qjM lo 0 len (λl=>k l len m))) (λ_=>False) mx)
  (λv=>unN v (λh=>qv (Nat.ble h m) (qE h (λh=>qjM lo 0 h (λl=>k l h m))))) hi):=hk
 obtain⟨m,hm,hm2⟩:=ql7 (P:=P) h3 hc hk' (λ_=>if isSlice then .slice3Acap else .slice3Alen) w
 rcases h2 with⟨rfl,rfl⟩|⟨u,y',rfl,rfl,hv⟩
 .rcases hm2 with⟨rfl,rfl,rfl⟩|⟨u,rfl,hne,_⟩
  .have hm':qv (Nat.ble len m) (qjM lo 0 len (λl=>k l len m)):=hm
   obtain⟨h4,h5⟩:=(qf _ _).1 hm';rw[qhj]at h4;obtain⟨l,h6,h7⟩:=ql7 (P:=P) h1 (zzL _) h5 (λ_=>.sliceB) w
   rcases h7 with⟨rfl,rfl,rfl⟩|⟨u,rfl,_,h8,h9⟩
   .exact⟨0,len,m,capR,h6,by simp[Instr.sliceBounds],zzu _,Ae,zzL _,Ae⟩
   .exact⟨l,len,m,capR,h6,by simp[Instr.sliceBounds,h9],h8,Ae,zzL _,Ae⟩
  .cases mx<;>simp_all
 .have hm':unN u (λh=>qv (Nat.ble h m) (qE h (λh=>qjM lo 0 h (λl=>k l h m)))):=hm
  obtain⟨q,h,e,h4⟩:=qfQ hv hm';obtain⟨h5,h6⟩:=(qf _ _).1 h4;rw[qO]at h6;rw[qhj]at h5;have h5':h<=m:=Ae
  rcases hm2 with⟨rfl,rfl,rfl⟩|⟨v,rfl,hne,hmt,hmr⟩
  .obtain⟨l,h7,h8⟩:=ql7 (P:=P) h1 (zzL _) h6 (λ_=>.sliceB) w
   have hh:∀code,(Instr.sliceBound y' capR code).run P w = .ok h w:=by
    intro code;have:(h:Int)<=capR:=Ab
    simp[Instr.sliceBound,e,asIntOf];exact Ab
   rcases h8 with⟨rfl,rfl,rfl⟩|⟨v,rfl,_,h8,h9⟩
   .exact⟨0,h,m,capR,h7,by simp[Instr.sliceBounds,hh],zzu _,h5',zzL _,.inl ⟨rfl,rfl,rfl⟩⟩
   .exact⟨l,h,m,capR,h7,by simp[Instr.sliceBounds,hh,h9],h8,h5',zzL _,.inl ⟨rfl,rfl,rfl⟩⟩
  .obtain⟨l,h7,h8⟩:=ql7 (P:=P) h1 (zzL _) h6 (λ_=>.slice3C) w
   have hh:∀code,(Instr.sliceBound y' m code).run P w = .ok h w:=by
    intro code;simp[Instr.sliceBound,e,asIntOf];exact Ab
   have hmr':(Instr.sliceBound v capR (if isSlice=true then .slice3Acap else .slice3Alen)).run P w = .ok m w:=hmr
   rcases h8 with⟨rfl,rfl,rfl⟩|⟨z,rfl,_,h8,h9⟩
   .exact⟨0,h,m,m,h7,by simp[Instr.sliceBounds,hmr',hh],zzu _,h5',hmt,.inr ⟨hne,rfl⟩⟩
   .exact⟨l,h,m,m,h7,by simp[Instr.sliceBounds,hmr',hh,h9],h8,h5',hmt,.inr ⟨hne,rfl⟩⟩
def qfj{t:Tr AV}{a:Act}(ht:TR σ Z t a.tmps){x:Option O}{y:Option Operand}(hc:vl y x=true){k:Option AV->Prop}(h:qbg t x k):∃v,k v/\qwg σ Z v (y.map a.eval):=by
 obtain⟨v,h1,h2⟩:=qCw ht hc h;rcases h2 with⟨rfl,rfl⟩|⟨u,y',rfl,rfl,h3⟩
 .exact⟨none,h1,.inl ⟨rfl,rfl⟩⟩
 .exact⟨some u,h1,.inr Ae⟩
section ops
variable {B:Nat->Prop}{h:Hp}{w:World}{a:Act}{t:Tr AV}{orc:Orc}{k:AV->Hp->Prop}{o:Oper}
def qC9(r:Rel σ Z B h w)(ht:TR σ Z t a.tmps){esz:Nat}{x:O}{lo hi mx:Option O}{x':Operand}{lo' hi' mx':Option Operand}{ty e:TypeId}(ho:o.op = .slice ty x' lo' hi' mx')(hc:qR x' x=true)(hc1:vl lo' lo=true)(hc2:vl hi' hi=true)(hc3:vl mx' mx=true)(h1:wu P ty=some e)(h2:zA P e esz=true)(hk:opK orc (.slcS esz x lo hi mx) t h k):Res P σ Z B h w (execOp a.eval o) k:=by
 obtain⟨v,h3,h4⟩:=zx ht hc hk;obtain⟨l,h5,hl⟩:=qfj ht hc1 h3;obtain⟨hh,h6,hhi⟩:=qfj ht hc2 h5;obtain⟨m,h7,hm⟩:=qfj ht hc3 h6;have hu:=jd h1;cases v<;>try exact h7.elim
 .obtain⟨l0,h0,m0,mR,h8,h9,h10,h11,h12,h13⟩:=wX (P:=P) hl hhi hm (zzL 0) h7 true w;refine Res.pure r h8 (v':=.slice none 0 0) ?_ .nils;have:l0=0/\h0=0/\mR=0:=by rcases h13 with⟨_,_,_⟩|⟨_,_⟩<;>omega
  obtain⟨rfl,rfl,rfl⟩:=this;simp[execOp,ho,Instr.sliceAt,qL hu,Instr.slice,h4.un_nils,h9,xy h2]
 rotate_left 1
 .rename_i n cs
  -- a row that stays
  have hgo:∀(l0 h0 m0:Nat),Bool.rec (motive:=λ_=>Prop) (qdX (Nat.mul l0 esz) cs (λl1=>qE (h0-l0) (λlen'=>qdD (Nat.mul len' esz) l1 (λl2=>k (.fz len' l2) h)))) (k .e0 h) (and m.isSome (Nat.beq m0 l0))->
    ((and m.isSome (Nat.beq m0 l0))=true/\k .e0 h)\/((and m.isSome (Nat.beq m0 l0))=false/\l0*esz<=cs.length/\(h0-l0)*esz<=cs.length-l0*esz/\k (.fz (h0-l0) ((cs.drop (l0*esz)).take ((h0-l0)*esz))) h):=by
   grind[qfV,xo,qO,xe]
  rcases h4.un_fz with⟨k0,off,c,arr,e1,e0,e2,e4⟩|⟨rfl,rfl,a0,e1⟩
  .obtain⟨l0,h0,m0,mR,g1,g2,g3,g4,g5,g6⟩:=wX (P:=P) hl hhi hm e0 h7 true w
   have hrun:(execOp a.eval o).run P w = .ok (.value (.slice (some (if mR=l0 then⟨k0,off,none⟩else⟨k0,off+l0*esz,none⟩)) (h0-l0) (mR-l0))) w:=by
    simp only[execOp,ho,Instr.sliceAt,Sem.run_bind,qL hu,Result.andThen_ok,Instr.slice,e1,g2,xy h2,zza,Sem.run_pure,jM]
    exact Ag
   rcases hgo l0 h0 m0 g1 with⟨q1,q2⟩|⟨q1,q2,q3,q4⟩
   .simp only[zzB]at q1;have q3:m0=l0:=Ae
    have q4:mR=l0:=Ag
    refine Res.pure r q2 hrun ?_;have q5:h0-l0=0:=Ab
    rw[if_pos q4,q4,Nat.sub_self,q5];exact .e0 _
   .have hmR:h0<=mR:=Ey
    refine Res.pure r q4 hrun ?_
    by_cases hz:mR=l0
    .rw[if_pos hz];have q5:h0-l0=0:=Ab
     rw[q5];simp only[Nat.zero_mul,List.take_zero];exact .fz _ _ _ _ _ arr (zzu _) e2 Dt
    .rw[if_neg hz];refine .fz _ _ _ _ _ arr Ab e2 ?_;have hlen:((cs.drop (l0*esz)).take ((h0-l0)*esz)).length=(h0-l0)*esz:=by simp;exact Ab
     rw[hlen];have:=(e4.drop (l0*esz)).take ((h0-l0)*esz);rw[List.drop_take,List.take_take,List.drop_drop]at this;rw[Nat.min_eq_left Ab]at this;exact Ab
  .obtain⟨l0,h0,m0,mR,g1,g2,g3,g4,g5,g6⟩:=wX (P:=P) hl hhi hm (zzL 0) h7 true w;have hz:l0=0/\h0=0/\mR=0:=Ey
   have hrun:(execOp a.eval o).run P w = .ok (.value (.slice a0 0 0)) w:=by
    obtain⟨rfl,rfl,rfl⟩:=hz;cases a0<;>simp[execOp,ho,Instr.sliceAt,qL hu,Instr.slice,e1,g2,xy h2]
   rcases hgo l0 h0 m0 g1 with⟨q1,q2⟩|⟨q1,q2,q3,q4⟩
   .exact Res.pure r q2 hrun (.e0 _)
   grind[Res.pure]
 .obtain⟨l0,h0,m0,mR,g1,g2,g3,g4,g5,g6⟩:=wX (P:=P) hl hhi hm (zzL 0) h7 true w;have hz:l0=0/\h0=0/\mR=0:=Ey
  obtain⟨rfl,rfl,rfl⟩:=hz;obtain⟨a0,e1⟩:=h4.un_e0;refine Res.pure r g1 (v':=.slice a0 0 0) ?_ (.e0 _);cases a0<;>simp[execOp,ho,Instr.sliceAt,qL hu,Instr.slice,e1,g2,xy h2]
 .rename_i b n
  -- a row of one's own
  cases m with
  | some u =>
   have hcall:∀{l0 h0 mR len c:Nat}{a0:Option Addr},a.eval x' = .slice a0 len c->(Instr.sliceBounds true len c (lo'.map a.eval) (hi'.map a.eval) (mx'.map a.eval)).run P w = .ok (l0,h0,mR) w->
     (execOp a.eval o).run P w = .ok (.value (.slice (a0.map λq=>if mR=l0 then q else q.add (l0*esz)) (h0-l0) (mR-l0))) w:=by
    intro l0 h0 mR len c a0 ev g2;exact C8
   cases n with
   | zero =>
    have h7':xG 0 0 l hh (some u) (λ_ _ _=>k (.own b 0) h):=h7
    rcases h4.un_own with⟨-,⟨a0,e1⟩,hb⟩|⟨L,c,g1,g2,g3,e1⟩
    .exact Bm
    .obtain⟨l0,h0,m0,mR,q1,q2,q3,q4,q5,q6⟩:=wX (P:=P) hl hhi hm (zzu c) h7' true w
     have hz:l0=0/\h0=0/\mR=0:=Ag
     obtain⟨rfl,rfl,rfl⟩:=hz;refine Res.pure r q1 (hcall e1 q2) ?_;simp only[zza,if_true,Nat.sub_zero];exact .own _ _ 0 L g1 (zzL _) (by rw[Nat.zero_mul];exact Ab)
   | succ n =>
    have h7':xG (n+1) (n+1) l hh (some u) (λl h' m=>qE (if m=l then 0 else Nat.mul l esz) (λo'=>qE (h'-l) (λlen'=>qE (m-l) (λcap'=>k (.sl b o' len' cap' false) h)))):=h7
    rcases h4.un_own with⟨hn0,_⟩|⟨L,c,g1,g2,g3,e1⟩
    .exact Ab
    .obtain⟨l0,h0,m0,mR,q1,q2,q3,q4,q5,q6⟩:=wX (P:=P) hl hhi hm g2 h7' true w;simp only[qO]at q1
     have q11:mR=m0:=Ag
     subst q11;refine Res.pure r q1 (hcall e1 q2) ?_
     by_cases hz:mR=l0
     .simp only[zza,if_pos hz];exact .sl _ 0 _ _ _ _ L g1 (.inl rfl)
     .simp only[zza,if_neg hz,jM];exact .sl _ (l0*esz) _ _ _ _ L g1 (.inl rfl)
  | none =>
   have hcall:∀{l0 h0 mR len c:Nat}{a0:Option Addr},a.eval x' = .slice a0 len c->(Instr.sliceBounds true len c (lo'.map a.eval) (hi'.map a.eval) (mx'.map a.eval)).run P w = .ok (l0,h0,mR) w->
     (execOp a.eval o).run P w = .ok (.value (.slice (a0.map λq=>if mR=l0 then q else q.add (l0*esz)) (h0-l0) (mR-l0))) w:=by
    intro l0 h0 mR len c a0 ev g2;exact C8
   cases n with
   | zero =>
    have h7':xG 0 0 l hh none (λ_ _ _=>k (.own b 0) h):=h7
    rcases h4.un_own with⟨-,⟨a0,e1⟩,hb⟩|⟨L,c,g1,g2,g3,e1⟩
    .exact Bm
    .obtain⟨l0,h0,m0,mR,q1,q2,q3,q4,q5,q6⟩:=wX (P:=P) hl hhi hm (zzu c) h7' true w
     have hz:l0=0/\h0=0/\mR=c:=by
      rcases q6 with⟨_,_,q7⟩|⟨q7,_⟩
      .exact Ab
      .exact absurd rfl q7
     grind[Res.pure,jM]
   | succ n =>
    have h7':xG (n+1) (n+1) l hh none (λl h' m=>qE (Nat.mul l esz) (λo'=>qE (h'-l) (λlen'=>qE (m-l) (λcap'=>qlV h b esz true (k (.sl b o' len' cap' true) h))))):=h7
    rcases h4.un_own with⟨hn0,_⟩|⟨L,c,g1,g2,g3,e1⟩
    .exact Ab
    .obtain⟨l0,h0,m0,mR,q1,q2,q3,q4,q5,q6⟩:=wX (P:=P) hl hhi hm g2 h7' true w;simp only[qO]at q1;obtain⟨e2,wf,af,cs,hg,q7⟩:=(zC _ _ _).1 q1;obtain⟨q8,q9⟩:=(qf _ _).1 q7;obtain⟨q10,_⟩:=r.cells b L e2 wf af cs g1 hg;have he:L.esz=esz:=q10.trans (by simpa using q8)
     obtain⟨q11,q12⟩:m0=n+1/\mR=c:=Ag
     subst q12;refine Res.pure r q9 (hcall e1 q2) ?_;simp only[zza,jM]
     by_cases hz:mR=l0
     .rw[if_pos hz,hz,Nat.sub_self];have e3:h0-l0=0:=Ab
      have e4:m0-l0=0:=Ab
      rw[e3,e4];exact .slz _ _ _ _ L g1
     .rw[if_neg hz];refine .sl _ _ _ _ _ _ L g1 (.inr ⟨rfl,Ab,?_⟩)
      have hmul:l0*esz+(mR-l0)*esz=mR*esz:=by rw[<- Nat.add_mul];congr 1;exact Ab
      rw[he]at g3 ⊢
      exact Ag
 .rename_i b o' len cap loose;obtain⟨L,c,off,h8,h9,h10⟩:=h4.un_sl;have hcc:cap<=c:=by rcases h10 with⟨_,h|h⟩|⟨_,h,h'⟩<;>omega
  obtain⟨l0,h0,m0,mR,h11,h12,h13,h14,h15,h16⟩:=wX (P:=P) hl hhi hm hcc h7 true w;simp only[qO]at h11
  have h11':k (.sl b (if(loose&&m.isNone)=false/\m0=l0 then o' else o'.add (l0.mul esz)) (h0-l0) (m0-l0) (loose&&m.isNone)) h/\((loose&&m.isNone)=true->L.esz=esz):=by
   revert h11;cases(loose&&m.isNone)with
   | false=>intro h11;exact⟨h11,Ag⟩
   | true =>
    intro h11;obtain⟨e2,wf,af,cs,hg,h17⟩:=(zC _ _ _).1 h11;obtain⟨h18,h19⟩:=(qf _ _).1 h17;obtain⟨h20,_⟩:=r.cells b L e2 wf af cs h8 hg;exact⟨h19,λ_=>h20.trans (by simpa using h18)⟩
  obtain⟨h11,hesz⟩:=h11'
  have hrun:(execOp a.eval o).run P w = .ok (.value (.slice (some (if mR=l0 then⟨L.blk,off,none⟩else⟨L.blk,off+l0*esz,none⟩)) (h0-l0) (mR-l0))) w:=by
   simp only[execOp,ho,Instr.sliceAt,Sem.run_bind,qL hu,Result.andThen_ok,Instr.slice,h9,h12,xy h2,zza,Sem.run_pure,jM]
   exact Ag
  refine Res.pure r h11 hrun ?_
  by_cases hz:mR=l0
  .rw[if_pos hz,hz,Nat.sub_self];have e1:h0-l0=0:=Ie
   have e2:m0-l0=0:=Ie
   rw[e1,e2];exact .slz _ _ _ _ L h8
  .rw[if_neg hz];rcases h10 with⟨rfl,h10⟩|⟨hl0,hc0,hcr⟩
   .rcases h16 with⟨rfl,rfl,rfl⟩|⟨hmx,rfl⟩
    .-- no max
     have e3:(if(loose&&(none:Option AV).isNone)=false/\m0=l0 then o' else o'.add (l0.mul esz))=o'+l0*esz:=by
      split
      .rename_i hcond;rcases h10 with h10|⟨h10,_⟩
       .exact Ab
       .simp[h10]at hcond
      .rfl
     rw[e3];have e4:L.off+o'+l0*esz=L.off+(o'+l0*esz):=Ab
     rw[e4];refine .sl _ _ _ _ _ _ L h8 ?_;rcases h10 with h10|⟨h10,h17,h18⟩
     .left;exact Ab
     .right;have he:=hesz (by simp[h10]);refine⟨by simp[h10],Ab,?_⟩
      have hmul:l0*esz+(mR-l0)*esz=mR*esz:=by rw[<- Nat.add_mul];congr 1;exact Ab
      rw[he]at h18 ⊢;exact Ab
    .have e3:(if(loose&&m.isNone)=false/\mR=l0 then o' else o'.add (l0.mul esz))=o'+l0*esz:=by
      rw[if_neg (by intro hh;exact hz hh.2)];rfl
     rw[e3];have e4:L.off+o'+l0*esz=L.off+(o'+l0*esz):=Ab
     rw[e4];exact .sl _ _ _ _ _ _ L h8 (.inl rfl)
   exact Ab
end ops
section ops
variable {B:Nat->Prop}{h:Hp}{w:World}{a:Act}{t:Tr AV}{orc:Orc}{k:AV->Hp->Prop}{o:Oper}
def qv5(r:Rel σ Z B h w)(ht:TR σ Z t a.tmps){x:O}{lo hi:Option O}{x':Operand}{lo' hi':Option Operand}{ty:TypeId}(ho:o.op = .slice ty x' lo' hi' none)(hc:qR x' x=true)(hc1:vl lo' lo=true)(hc2:vl hi' hi=true)(h1:qfC P ty=true)(hk:opK orc (.slcStr x lo hi) t h k):Res P σ Z B h w (execOp a.eval o) k:=by
 obtain⟨v,h3,h4⟩:=zx ht hc hk;obtain⟨l,h5,hl⟩:=qfj ht hc1 h3;obtain⟨hh,h6,hhi⟩:=qfj ht hc2 h5;have hu:=qdx h1;cases v<;>try exact h6.elim
 rename_i s;obtain⟨l0,h0,m0,mR,h8,h9,h10,h11,h12,h13⟩:=wX (P:=P) hl hhi (.inl ⟨rfl,rfl⟩) (zzL s.length) h6 false w;refine Res.pure r h8 (v':=.string ⟨((s.take h0).drop l0).toArray⟩) ?_ (.s _)
 have e1:(ByteArray.mk s.toArray).extract l0 h0=⟨((s.take h0).drop l0).toArray⟩:=by
  apply ByteArray.ext;rw[ByteArray.data_extract];apply Array.ext';simp[List.extract_eq_take_drop,List.drop_take]
 have h9':(Instr.sliceBounds false (ByteArray.mk s.toArray).size (ByteArray.mk s.toArray).size (lo'.map a.eval) (hi'.map a.eval) none).run P w = .ok (l0,h0,mR) w:=by rw[qpc];exact h9
 simp only[execOp,ho,Instr.sliceAt,Sem.run_bind,qL hu,Result.andThen_ok,Instr.slice,h4.un_s,Option.map_none,Option.isSome_none,Bool.false_eq_true,if_false,h9',Sem.run_pure,e1]
def qC8(r:Rel σ Z B h w)(ht:TR σ Z t a.tmps){len esz:Nat}{x:O}{lo hi mx:Option O}{x':Operand}{lo' hi' mx':Option Operand}{ty e:TypeId}(ho:o.op = .slice ty x' lo' hi' mx')(hc:qR x' x=true)(hc1:vl lo' lo=true)(hc2:vl hi' hi=true)(hc3:vl mx' mx=true)(h1:qht P ty=some (len,e))(h2:zA P e esz=true)(hk:opK orc (.slcA len esz x lo hi mx) t h k):Res P σ Z B h w (execOp a.eval o) k:=by
 obtain⟨v,h3,h4⟩:=zx ht hc hk;obtain⟨b,o',L,h5,h6,h7⟩:=qsL h4 h3;obtain⟨l,h8,hl⟩:=qfj ht hc1 h7;obtain⟨hh,h9,hhi⟩:=qfj ht hc2 h8;obtain⟨m,h10,hm⟩:=qfj ht hc3 h9;obtain⟨l0,h0,m0,mR,h11,h12,h13,h14,h15,h16⟩:=wX (P:=P) hl hhi hm (zzL len) h10 false w;simp only[qO]at h11;have hmR:mR=m0:=by rcases h16 with⟨_,rfl,rfl⟩|⟨_,rfl⟩<;>rfl
 subst hmR
 have hrun:(execOp a.eval o).run P w = .ok (.value (.slice (some ⟨L.blk,L.off+(if mR=l0 then o' else o'.add (l0.mul esz)),none⟩) (h0-l0) (mR-l0))) w:=by
  simp only[execOp,ho,Instr.sliceAt,Sem.run_bind,qL (qen h1),Result.andThen_ok,h6,Instr.sureAddr,Sem.run_pure,h12,xy h2,jM]
  exact Ag
 exact Res.pure r h11 hrun (.sl _ _ _ _ _ _ L h5 (.inl rfl))
def qm6{q:NK}{x:AV}{x':Value}(hx:VR σ Z x x'){k:Bool->Prop}(hk:wA q x k){ty:TypeId}(hT:qvE P q ty=true){y:Operand}(hy:qfB q y=true)(w:World) :
  ∃c z,k c/\y = .const z/\(Op.equalIn (9999+1) ty x' z).run P w = .ok c w/\(Op.equalIn (9999+1) ty z x').run P w = .ok c w/\(∀cs,x'≠.agg cs)/\(∀cs,z≠.agg cs) /\
   (∀op,op = .eql\/op = .neq->binOp op ty x' z=(do let r <- Op.equal ty x' z;pure (.bool (xor (op == .neq) r)))) /\
   (∀op,op = .eql\/op = .neq->binOp op ty z x'=(do let r <- Op.equal ty z x';pure (.bool (xor (op == .neq) r)))):=by
 unfold qvE at hT;split at hT<;>try (cases hT;done)
 all_goals
  rename_i hu;cases y<;>first|(simp[qfB]at hy;done)|skip
  rename_i z;unfold qfB at hy;split at hy<;>first|(simp at hy;done)|skip
  all_goals
   rename_i hz;cases hz;cases x<;>first|exact hk.elim|skip
   all_goals
    cases hx<;>first|exact(hk:False).elim|skip
   all_goals
    first|refine⟨_,_,hk,rfl,?_,?_,?_,?_,?_,?_⟩|refine⟨_,_,((qf _ _).1 hk).2,rfl,?_,?_,?_,?_,?_,?_⟩
   all_goals first|(intro op hop;rcases hop with rfl|rfl<;>simp[binOp,show(BinOp.eql==BinOp.neq)=false from rfl];done)|(intro cs hh;cases hh;done)|(rw[Op.equalIn];simp[qL hu];done)
def qxx(r:Rel σ Z B h w)(ht:TR σ Z t a.tmps){neg:Bool}{q:NK}{op:BinOp}(hop:(op = .eql/\neg=false)\/(op = .neq/\neg=true)){x:O}{x' y':Operand}{ty uy:TypeId}(ho:o.op = .binOp op ty x' y' uy)
  (hc:(qR x' x=true/\qfB q y'=true)\/(qR y' x=true/\qfB q x'=true)) (hT:qvE P q ty=true) (hk:opK orc (.eqN neg q x) t h k):Res P σ Z B h w (execOp a.eval o) k:=by
 have hop':op = .eql\/op = .neq:=Ag
 have hneg:neg=(op == .neq):=by rcases hop with⟨rfl,rfl⟩|⟨rfl,rfl⟩<;>rfl
 have hg:∀{X Y:Operand}{u v:Value},((∃z,X = .const z)\/∃z,Y = .const z)->(∀cs,u≠.agg cs)->(eqGuard op ty X Y u v).run P w = .ok () w:=by
  intro X Y u v hc hu
  by_cases hn:u = .nilIface
  .subst hn;cases v<;>first|(cases op<;>simp[eqGuard];done)|(rcases hc with⟨z,rfl⟩|⟨z,rfl⟩<;>cases op<;>simp[eqGuard])
  simp_all[qgx]
 rcases hc with⟨hc,hn⟩|⟨hc,hn⟩
 .obtain⟨v,h1,h2⟩:=zx ht hc hk;obtain⟨c,z,h3,rfl,h4,h5,h6,h7,h8,h9⟩:=qm6 (P:=P) h2 h1 hT hn w;rw[zi]at h3;refine Res.pure r h3 (qjS ho Ae ?_) (.b _);show(binOp op ty (a.eval x') z).run P w=_;have h4':(Op.equal ty (a.eval x') z).run P w = .ok c w:=h4;rw[h8 op hop',hneg];simp[h4']
 .obtain⟨v,h1,h2⟩:=zx ht hc hk;obtain⟨c,z,h3,rfl,h4,h5,h6,h7,h8,h9⟩:=qm6 (P:=P) h2 h1 hT hn w;rw[zi]at h3;refine Res.pure r h3 (qjS ho (hg (.inl ⟨z,rfl⟩) h7) ?_) (.b _);show(binOp op ty z (a.eval y')).run P w=_;have h5':(Op.equal ty z (a.eval y')).run P w = .ok c w:=h5;rw[h9 op hop',hneg];simp[h5']
end ops
def VRs.splice{l:List AV}{c c':Array Value}{off:Nat}{vs:List AV}{vs':List Value}(hl:VRs σ Z l c.toList)(hv:VRs σ Z vs vs')(h:off+vs.length<=l.length)(hs:Spl c off vs' c') :
  VRs σ Z (l.take off++(vs++l.drop (off+vs.length))) c'.toList:=by
 have h1:=hl.length;have h2:=hv.length;have h3:=hs.size;refine VRs.of_get Ag ?_;intro j a ha;rw[Array.getElem?_toList]
 by_cases hj:j<off
 .rw[zzj (by simp;exact Ab),zzq hj]at ha
  grind[VRs.get,Spl.out]
 .rw[zzr (by simp;exact Ab)]at ha;have e1:(l.take off).length=off:=by simp;exact Ab
  rw[e1]at ha
  by_cases hj2:j<off+vs.length
  .rw[zzj Ab]at ha;obtain⟨v,hv1,hv2⟩:=hv.get ha;refine⟨v,?_,hv2⟩;have:=hs.inn _ _ hv1;rwa [show off+(j-off)=j from Ab]at this
  grind[VRs.get,Spl.out]
def qqP(off:Nat):∀(vs:List Value) (s:Nat) (c:Array Value),off+s+vs.length<=c.size->
  Spl c (off+s) vs ((vs.zipIdx s).foldl (λcs p=>cs.setIfInBounds (off+p.2) p.1) c)
 | [],s,c,_=>⟨rfl,λ_ _=>rfl,λj v hv=>Ag⟩
 | v::vs,s,c,h=>by
  simp only[zze]at h;rw[List.zipIdx_cons,List.foldl_cons];have ih:=qqP off vs (s+1) (c.setIfInBounds (off+s) v) Ag;refine⟨by rw[ih.size];simp,?_,?_⟩
  .intro j hj;simp only[zze]at hj;rw[ih.out j Ab,zzw,if_neg Ab]
  .intro j u hu;cases j with
   | zero =>
    simp at hu;subst hu;rw[ih.out _ Ab,zzw];exact Ag
   | succ j =>
    have:=ih.inn j u Ae;rwa [show off+(s+1)+j=off+s+(j+1)from Ab]at this
def qmd(hσ:qag σ){t:Tr AV}{a:Act}(ht:TR σ Z t a.tmps)(qnn:Nat->Option (Nat×Nat)):∀(xs:List (Nat×Operand)) (ps:List (Nat×Nat×O)) (l:List AV) (c:Array Value),qat qnn xs ps=true->VRs σ Z l c.toList->
  ∀(k:List AV->Prop),qai t ps l k->∃l' c',k l'/\VRs σ Z l' c'.toList/\Instr.fill qnn c (xs.map λp=>(p.1,a.eval p.2))=some c'
 | [],ps,l,c,hc,hv,k,hk=>by
  cases ps with
  | nil=>exact⟨l,c,hk,hv,rfl⟩
  | cons=>simp[qat]at hc
 | (i,x)::xs,ps,l,c,hc,hv,k,hk=>by
  cases ps with
  | nil=>simp[qat]at hc
  | cons p ps =>
   obtain⟨off,n,y⟩:=p;simp only[qat,zzB,beq_iff_eq]at hc;obtain⟨⟨hp,hx⟩,hc⟩:=hc;have hk':evK t y (λv=>qv (qdJ v) (qE off (λoff=>qiJ (cellsOf v) (λm=>qv (Nat.beq m n) (wH (cellsOf v) off l (λl'=>qai t ps l' k)))))):=hk
   obtain⟨v,h1,h2⟩:=zx ht hx hk';obtain⟨hd,h3⟩:=(qf _ _).1 h1;rw[qO,ka]at h3;obtain⟨hn,h4⟩:=(qf _ _).1 h3;obtain⟨h5,h6⟩:=(vj _ _ _ _).1 h4;have hvs:=VRs.cells hσ h2 hd;have hl:=hvs.length;have hl2:=hv.length;have hn':(cellsOf v).length=n:=by simpa using hn
   have hspl:=qqP off (a.eval x).cells.toList 0 c (by simp at hl hl2 ⊢;exact Ab);obtain⟨l',c',h7,h8,h9⟩:=qmd hσ ht qnn xs ps _ _ hc (VRs.splice hv hvs Ab hspl) k h6;refine⟨l',c',h7,h8,?_⟩;have e1:¬((a.eval x).cells.size≠n):=by simp at hl;exact Ab
   have e2:¬(off+(a.eval x).cells.size > c.size):=by simp at hl hl2;exact Ab
   simp only[zz3,Instr.fill,hp];rw[if_neg (by simp;simp at e1 e2;exact Ab)];rw[<- h9]
   grind[Array.toList_zipIdx]
def qsA{z:List AV}{zero:Array Value}(hz:VRs σ Z z zero.toList)(n:Nat)(zero':Array Value)(h0:n*z.length=0\/zero'=zero) :
  VRs σ Z (List.replicate n z).flatten ((Array.range (n*z.length)).map (λi=>zero'[i % zero'.size]!)).toList:=by
 have hl:=hz.length;refine VRs.of_get Ae ?_;intro j a ha
 have hj:j<n*z.length:=by
  have:=(zzS.1 ha).1
  exact Ae
 have hz0:0<z.length:=Nat.pos_of_ne_zero Ag;rcases h0 with h0|rfl
 .exact Ab
 .have hm:j % z.length<z.length:=Nat.mod_lt _ hz0
  have ha':z[j % z.length]?=some a:=by
   have key:∀(n j:Nat),j<n*z.length->(List.replicate n z).flatten[j]?=z[j % z.length]?:=by
    intro n
    induction n with
    | zero=>intro j hj;simp at hj
    | succ n ih =>
     intro j hj;rw[List.replicate_succ,List.flatten_cons]
     by_cases hlt:j<z.length
     .rw[zzj hlt,Nat.mod_eq_of_lt hlt]
     .rw[zzr Ab,ih _ (by rw[Nat.add_mul,Nat.one_mul]at hj;exact Ab)];rw[Nat.mod_eq_sub_mod (Ab:j ≥ z.length)]
   rw[<- key n j hj];exact ha
  grind[VRs.get]
def qrl(fs:Array Field)(hf:∀f ∈ fs.toList,(P.info? f.type).isSome=true)(w:World) :
  (fs.mapM (λf=>(do pure (f.offset,<- sizeOf f.type):Sem (Nat×Nat)))).run P w = .ok (fs.map λf=>(f.offset,P.cellsOf f.type)) w:=by
 have hpl:∀(l:List Field),(∀f ∈ l,(P.info? f.type).isSome=true)->(List.mapM (λ(f:Field)=>(do pure (f.offset,<- sizeOf f.type):Sem (Nat×Nat))) l).run P w = .ok (l.map λf=>(f.offset,P.cellsOf f.type)) w:=by
  intro l
  induction l with
  | nil=>intro _;simp
  | cons f l ih =>
   intro hl;obtain⟨j,hj⟩:=zzx.1 (hl f (by simp));rw[List.mapM_cons];simp only[Sem.run_bind,Sem.run_pure,sizeOf,typeInfo,run_program,hj,Result.andThen_ok]at ih ⊢;rw[ih Ae];simp[Program.cellsOf,hj]
 obtain⟨l⟩:=fs;rw[List.mapM_toArray]
 exact Ae
section ops
variable {B:Nat->Prop}{h:Hp}{w:World}{a:Act}{t:Tr AV}{orc:Orc}{k:AV->Hp->Prop}{o:Oper}
def qwR(hσ:qag σ)(r:Rel σ Z B h w)(ht:TR σ Z t a.tmps){z:List AV}{ps:List (Nat×Nat×O)}{ty:TypeId}{xs:Array (Nat×Operand)}(ho:o.op = .build ty xs)(hz:qbk P ty z=true)
  (hc:(match P.underlying ty with
   | some (.struct fs)=>qat (λi=>(fs[i]?).bind λf=>(P.info? f.type).map λj=>(f.offset,j.size)) xs.toList ps&&fs.toList.all λf=>(P.info? f.type).isSome
   | some (.array _ e)=>(match P.info? e with|some j=>qat (λi=>some (i*j.size,j.size)) xs.toList ps|none=>false)
   | _=>false)=true) (hk:opK orc (.build z ps) t h k):Res P σ Z B h w (execOp a.eval o) k:=by
 obtain⟨i,v,h1,h2,h3,h4⟩:=qgq hz;have hv:=qda (σ:=σ) (Z:=Z) _ _ h3;have hk':qai t ps z (λcs=>k (.agg cs) h):=hk
 split at hc<;>try (cases hc;done)
 .rename_i fs hu;simp only[zzB]at hc;obtain⟨l',c',h5,h6,h7⟩:=qmd hσ ht _ _ _ _ _ hc.1 hv _ hk';refine Res.pure r h5 (v':=.agg c') ?_ (.agg _ _ h6);have hmap:=qrl (P:=P) fs Ag w
  have hplace:(λ(i:Nat)=>(fs.map λ(f:Field)=>(f.offset,P.cellsOf f.type))[i]?)=(λ(i:Nat)=>(fs[i]?).bind λ(f:Field)=>(P.info? f.type).map λj=>(f.offset,j.size)):=by
   funext i;rw[Array.getElem?_map];cases hi:fs[i]? with
   | none=>rfl
   | some f =>
    have hm:f ∈ fs.toList:=by
     rw[Array.getElem?_eq_some_iff]at hi;obtain⟨hlt,rfl⟩:=hi;simp
    have hs:=(zzy.1 hc.2) f hm;obtain⟨j,hj⟩:=zzx.1 hs;simp[Program.cellsOf,hj]
  simp only[execOp,ho,Instr.build,Sem.run_bind,qdF h1 h2,Result.andThen_ok,qL hu,hmap,hplace];have h7':Instr.fill (λi=>(fs[i]?).bind λ(f:Field)=>(P.info? f.type).map λj=>(f.offset,j.size)) v.cells (xs.map λp=>(p.1,a.eval p.2)).toList=some c':=by rw[Array.toList_map];exact h7
  exact Ae
 .rename_i n e hu;cases he:P.info? e with
  | none=>exact Ae
  | some j =>
   simp only[he]at hc;obtain⟨l',c',h5,h6,h7⟩:=qmd hσ ht _ _ _ _ _ hc hv _ hk';refine Res.pure r h5 (v':=.agg c') ?_ (.agg _ _ h6);have h7':Instr.fill (λi=>some (i*j.size,j.size)) v.cells (xs.map λp=>(p.1,a.eval p.2)).toList=some c':=by rw[Array.toList_map];exact h7
   simp only[execOp,ho,Instr.build,Sem.run_bind,qdF h1 h2,Result.andThen_ok,qL hu,sizeOf,typeInfo,run_program,he,Sem.run_pure,h7']
def quw(hσ:qag σ)(r:Rel σ Z B h w)(ht:TR σ Z t a.tmps){n:Nat}{z:List AV}{ps:List (Nat×Nat×O)}{ty e:TypeId}{xs:Array (Nat×Operand)}(ho:o.op = .buildSlice ty n xs)(he:wu P ty=some e)(hz:qbk P e z=true)(hb:n*z.length<=16777216)
  {j:TypeInfo}(hj:P.info? e=some j) (hc:qat (λi=>some (i*j.size,j.size)) xs.toList ps=true) (hk:opK orc (.buildS n z ps) t h k):Res P σ Z B h w (execOp a.eval o) k:=by
 obtain⟨i,v,h1,h2,h3,h4⟩:=qgq hz;rw[hj]at h1;cases h1;have hv:=qda (σ:=σ) (Z:=Z) _ _ h3;have hl:=hv.length;have hsz:z.length=j.size:=Ae
 have hk':ql2 z n (λcs=>qai t ps cs (λcs=>vg h (.cells 0 true false cs) (λb h'=>k (.sl b 0 n n false) h'))):=hk
 rw[qeN]at hk';have hrep:=qsA hv n (if n*z.length=0 then #[]else v.cells) (by split<;>simp_all)
 obtain⟨l',c',h5,h6,h7⟩:=qmd hσ ht _ _ _ _ _ hc hrep _ hk';have hl6:=h6.length;obtain⟨Z',h',h8,h9,h10,h11⟩:=qh7 (w1:={ w with heap:=w.heap.push (.cells c' e) }) r (c:=c') Ag h5 rfl;refine⟨_,_,h',Z',_,h8,.inl (?_:_=Result.ok (Next.value (.slice (some ⟨w.heap.size,0+0,none⟩) n n)) { w with heap:=w.heap.push (.cells c' e) }),.sl _ 0 _ _ _ _ _ h11 (.inl rfl),h9,h10⟩;have hb':¬(n*j.size > 2 ^ 24):=by rw[<- hsz];exact Ab
 have h7':Instr.fill (λi=>some (i*j.size,j.size)) ((Array.range (n*j.size)).map (λi=>(if n*j.size=0 then #[]else v.cells)[i % (if n*j.size=0 then #[]else v.cells).size]!)) (xs.map λp=>(p.1,a.eval p.2)).toList=some c':=by
  rw[Array.toList_map];rw[hsz]at h7;exact h7
 simp only[execOp,ho,Instr.buildSlice,Sem.run_bind,qL (jd he),Result.andThen_ok,sizeOf,typeInfo,run_program,hj,Sem.run_pure];rw[if_neg hb']
 by_cases hz0:n*j.size=0
 .simp only[hz0,if_true]at h7' ⊢;simp only[Sem.run_bind,Sem.run_pure,Result.andThen_ok,h7',newRow,run_newObj,Nat.add_zero]
 .simp only[hz0,if_false]at h7' ⊢;simp only[Sem.run_bind,qdF hj h2,Sem.run_pure,Result.andThen_ok,h7',newRow,run_newObj,Nat.add_zero]
def qnT{n:Nat}(h:n<=70368744177664):IntKind.i64.wrap (n:Int)=n:=by
 refine Ej ?_;exact Ab
def qGm(r:Rel σ Z B h w)(ht:TR σ Z t a.tmps){esz bytes:Nat}{z:List AV}{len cap:O}{l' c':Operand}{ty e:TypeId}(ho:o.op = .makeSlice ty l' c')(hc1:qR l' len=true)(hc2:qR c' cap=true)(he:wu P ty=some e)(hb:qeq P e bytes=true)(hz:qbk P e z=true)(hk:opK orc (.mkS esz bytes z len cap) t h k):Res P σ Z B h w (execOp a.eval o) k:=by
 obtain⟨i,v,h1,h2,h3,h4⟩:=qgq hz;obtain⟨i',hi',h5⟩:=qmG hb;rw[h1]at hi';cases hi';have hv:=qda (σ:=σ) (Z:=Z) _ _ h3;have hl:=hv.length;have hsz:z.length=i.size:=Ae
 obtain⟨u,h6,h7⟩:=zx ht hc1 hk;obtain⟨x,h8,h9⟩:=zx ht hc2 h6;obtain⟨q,n,e1,h10⟩:=qfQ h7 h8;obtain⟨q',m,e2,h11⟩:=qfQ h9 h10;obtain⟨h12,h11⟩:=(qf _ _).1 h11;obtain⟨h13,h11⟩:=(qf _ _).1 h11;obtain⟨h14,h11⟩:=(qf _ _).1 h11;rw[qeN]at h11;rw[qhj]at h12 h13 h14;have g1:n<=m:=Ae
 have g2:m<=70368744177664:=of_decide_eq_true h13;have g3:bytes*m<=70368744177664:=of_decide_eq_true h14;have hrep:=qsA hv m (if m*z.length=0 then #[]else v.cells) (by split<;>simp_all)
 have hl6:=hrep.length;obtain⟨Z',h',h18,h19,h20,h21⟩:=qh7 (w1:={ w with heap:=w.heap.push (.cells ((Array.range (m*z.length)).map (λi=>(if m*z.length=0 then #[]else v.cells)[i % (if m*z.length=0 then #[]else v.cells).size]!)) e) }) r ⟨_,rfl,by rw[hl6,zz0];exact Ab⟩ h11 rfl
 refine⟨_,_,h',Z',_,h18,.inl (?_:_=Result.ok (Next.value (.slice (some ⟨w.heap.size,0+0,none⟩) n m)) { w with heap:=w.heap.push (.cells ((Array.range (m*z.length)).map (λi=>(if m*z.length=0 then #[]else v.cells)[i % (if m*z.length=0 then #[]else v.cells).size]!)) e) }),.sl _ 0 _ _ _ _ _ h21 (.inl rfl),h19,h20⟩
 have w1:=qnT (zzg g1 g2);have w2:=qnT g2;have t1:¬((m:Int)<0):=Ab
 have t2:¬((n:Int)<0):=Ab
 have t3:¬((n:Int) > (m:Int)):=Ab
 have t4:¬((i.bytes:Int)*(m:Int) > 2 ^ 48):=by
  rw[h5];have:((bytes*m:Nat):Int)<=70368744177664:=Int.ofNat_le.2 g3;rw[Int.natCast_mul]at this;exact Ab
 have hs:(sizeOf e).run P w = .ok i.size w:=xy (by unfold zA;rw[h1];simp) w;simp only[execOp,ho,Instr.makeSlice,Sem.run_bind,qL (jd he),Result.andThen_ok,e1,e2,asInt,asIntOf,Sem.run_pure,qx7 h1,w1,w2];simp only[t1,t2,t3,t4,decide_false,Bool.or_false,Bool.false_eq_true,if_false,Sem.run_bind,run_askRoom,Result.andThen_ok,Int.toNat_natCast,hs];rw[hsz]
 by_cases hz0:m*i.size=0
 .simp only[hz0,if_true];simp only[Sem.run_bind,Sem.run_pure,Result.andThen_ok,newRow,run_newObj,Nat.add_zero]
 .simp only[hz0,if_false];simp only[Sem.run_bind,qdF h1 h2,Sem.run_pure,Result.andThen_ok,newRow,run_newObj,Nat.add_zero]
end ops
section ops
variable {B:Nat->Prop}{h:Hp}{w:World}{a:Act}{t:Tr AV}{orc:Orc}{k:AV->Hp->Prop}{o:Oper}
def qwT(l:List UInt8):VRs σ Z (l.map λc=>AV.i .u8 (Int.ofNat c.toNat)) (l.map λc=>Value.int .u8 (c.toNat:Int)):=by
 induction l with
 | nil=>exact .nil
 | cons c l ih=>exact .cons _ _ _ _ (.i _ _) ih
def qv3(w:World)(a:Addr):(loadCells a 0).run P w = .ok #[] w:=by
 have:=run_loadCells_list (P:=P) w a [] Ae;exact Ab
def qk0(w:World)(esz:Nat)(a:Option Addr):(Builtin.firstCells esz 0 (.slice a 0 0)).run P w = .ok #[] w:=by
 cases a with
 | none=>simp[Builtin.firstCells]
 | some a=>simpa[Builtin.firstCells]using qv3 (P:=P) w a
def qHF(r:Rel σ Z B h w){esz:Nat}{x:AV}{x':Value}(hx:VR σ Z x x'){k:Nat->List AV->Prop}(hk:qc5 h esz x k) :
  ∃n cs vs,k n cs/\VRs σ Z cs vs/\vs.length=n*esz/\(∀w',w'.heap=w.heap->(Builtin.lenOf x').run P w' = .ok n w')/\(∀m,m<=n->∀w',w'.heap=w.heap->(Builtin.firstCells esz m x').run P w' = .ok (vs.take (m*esz)).toArray w'):=by
 cases x<;>try exact hk.elim
 .-- a string
  rename_i l;obtain⟨h1,h2⟩:=(qf _ _).1 hk;rw[qO]at h2;have he:esz=1:=Ex
  subst he;have e:=hx.un_s;refine⟨l.length,_,_,h2,qwT l,by simp,λw' _=>by rw[e];simp[Builtin.lenOf,qpc],λm hm w' _=>?_⟩
  rw[e];simp only[Builtin.firstCells,Sem.run_pure,zzU]
  exact Ae
 .exact⟨0,[],[],hk,.nil,by simp,λw' _=>by rw[hx.un_nils];simp[Builtin.lenOf],λm hm w' _=>by rw[hx.un_nils];simp[Builtin.firstCells]⟩
 .rename_i b o n cap loose;obtain⟨L,c,off,h1,h2,h3⟩:=hx.un_sl;obtain⟨cs,vs,h4,h5,h6,h7⟩:=qjo r h1 (show qfG h b o (n*esz) (λcs=>k n cs)from hk)
  refine⟨n,cs,vs,h4,h5,h6,λw' _=>by rw[h2];simp[Builtin.lenOf],λm hm w' hw=>?_⟩
  rw[h2];refine I5 ?_;have hmn:m*esz<=n*esz:=Nat.mul_le_mul_right _ hm;refine qfl (by simp;exact Ab) (λj v hj=>?_)
  rw[List.getElem?_take]at hj;split at hj
  .have:=h7 j v hj;rcases h3 with⟨rfl,_⟩|⟨h3,_,_⟩
   .have hc:∀a,w'.cell? a=w.cell? a:=λa=>E9
    rw[hc];exact this
   .subst h3;simp at hmn;exact Ab
  exact Ae
 .-- a row that stays
  rename_i n cs;obtain⟨h1,h2⟩:=(xe _ _ _).1 hk;have h1:n*esz<=cs.length:=h1;rcases hx.un_fz with⟨k0,off,c,arr,e1,e2,e3,e5⟩|⟨rfl,rfl,a0,e1⟩
  .have hcl:=e5.length;refine⟨n,_,((arr.toList.drop off).take cs.length).take (n*esz),h2,(e5.take _).vr,by simp at hcl ⊢;exact Ab,λw' _=>C7,λm hm w' hw=>?_⟩
   rw[e1];refine I5 ?_;have hmn:m*esz<=n*esz:=Nat.mul_le_mul_right _ hm
   grind[qfl,Rel.frz,qde]
  .exact⟨0,_,[],h2,Dt,by simp,λw' _=>C7,λm hm w' _=>Hq⟩
 .obtain⟨a0,e1⟩:=hx.un_e0
  exact⟨0,[],[],hk,.nil,by simp,λw' _=>C7,λm hm w' _=>Hq⟩
 .rename_i b n;have hk':qfG h b 0 (n*esz) (λcs=>k n cs):=hk
  rcases hx.un_own with⟨rfl,⟨a0,e1⟩,_⟩|⟨L,c,h1,h2,h3,e1⟩
  .obtain⟨e,wf,af,cs,hg,hn⟩:=(zC _ _ _).1 hk';obtain⟨_,hn⟩:=(xo _ _ _).1 hn;obtain⟨_,hn⟩:=(xe _ _ _).1 hn;simp only[Nat.zero_mul,List.take_zero]at hn
   exact⟨0,[],[],hn,.nil,by simp,λw' _=>C7,λm hm w' _=>Hq⟩
  .obtain⟨cs,vs,h4,h5,h6,h7⟩:=qjo r h1 hk';refine⟨n,cs,vs,h4,h5,h6,λw' _=>C7,λm hm w' hw=>?_⟩
   rw[e1];refine I5 ?_;have hmn:m*esz<=n*esz:=Nat.mul_le_mul_right _ hm;refine qfl (by simp;exact Ab) (λj v hj=>?_)
   rw[List.getElem?_take]at hj;split at hj
   .have:=h7 j v hj;have hc:∀a,w'.cell? a=w.cell? a:=λa=>E9
    rw[hc];exact H5
   exact Ae
 .obtain⟨a0,c0,e1⟩:=hx.un_nz
  exact⟨0,[],[],hk,.nil,by simp,λw' _=>C7,λm hm w' _=>by
   obtain rfl:m=0:=Ab
   rw[e1];simpa[Builtin.firstCells]using qk0 (P:=P) w' esz (some a0)⟩
theorem wC{ts tx rt elem:TypeId}{args:Array TypeId}(h0:args[0]?=some ts)(h1:args[1]?=some tx)(hu:P.underlying ts=some (.slice elem))(hx:P.underlying tx=some .string\/∃e,P.underlying tx=some (.slice e)){size:Nat}(hs:zA P elem size=true)
  {x':Value}{n sLen sCap:Nat}{a0:Option Addr}{new:Array Value}{w w':World}(hl:(Builtin.lenOf x').run P w = .ok n w) (hf:(Builtin.firstCells size n x').run P w = .ok new w) (hfit:sLen+n<=sCap)
  (hst:∀a,a0=some a->(storeCells (a.add (sLen*size)) new.toList).run P w = .ok () w') (hst0:a0=none->w'=w) :
  (Builtin.append_ args rt #[.slice a0 sLen sCap,x']).run P w = .ok (.slice a0 (sLen+n) sCap) w':=by
 rcases hx with hx|⟨e,hx⟩<;>cases a0 with
 | none=>obtain rfl:=hst0 rfl;simp[Builtin.append_,h0,h1,qL hu,qL hx,xy hs,hl,hfit,hf]
 | some a=>simp[Builtin.append_,h0,h1,qL hu,qL hx,xy hs,hl,hfit,hf,hst a rfl]
def qnV(z:Array Value)(n:Nat):(Builtin.zeroCells z n).size=n*z.size:=by simp[Builtin.zeroCells]
def qd6{ts tx rt elem:TypeId}{args:Array TypeId}(h0:args[0]?=some ts)(h1:args[1]?=some tx)(hu:P.underlying ts=some (.slice elem))(hx:P.underlying tx=some .string\/∃e,P.underlying tx=some (.slice e)){size:Nat}{i:TypeInfo}(hi:P.info? elem=some i)(hsz:i.size=size){z:Value}(hz:i.zero=some z)
  {x':Value}{n sLen sCap:Nat}{a0:Option Addr}{new old:Array Value}{w:World}(hl:(Builtin.lenOf x').run P w = .ok n w) (hf:(Builtin.firstCells size n x').run P w.drew = .ok new w.drew) (ho:(Builtin.firstCells size sLen (.slice a0 sLen sCap)).run P w.drew = .ok old w.drew)
  (hgrow:sCap<sLen+n) (hb1:sLen+n<=qe) (hb2:(sLen+n)*i.bytes<=qe) :
  ∃newCap rest w',sLen+n<=newCap/\rest.size=(newCap-(sLen+n))*z.cells.size/\w'.heap=w.heap.push (.cells (old++new++rest) elem)/\(w'.os=w.os/\w'.output=w.output) /\
   (Builtin.append_ args rt #[.slice a0 sLen sCap,x']).run P w = .ok (.slice (some ⟨w.heap.size,0,none⟩) (sLen+n) newCap) w':=by
 have hn:¬(sLen+n<=sCap):=Ab
 have hb1':sLen+n<=70368744177664:=hb1;have hb2':(sLen+n)*i.bytes<=70368744177664:=hb2;have h63:¬(IntKind.max .i64<((sLen+n:Nat):Int)):=by show¬((9223372036854775807:Int)<_);exact Ab
 have h63':¬(9223372036854775807<((sLen:Int)+(n:Int))):=Ab
 have h48:¬(281474976710656<Builtin.nextslicecap (sLen+n) sCap*i.bytes):=by
  have:=growslice_fits (bytes:=i.bytes) hgrow Ab;exact Ab
 refine⟨grownCap w (sLen+n) sCap elem,Builtin.zeroCells z.cells (grownCap w (sLen+n) sCap elem-(sLen+n)),w.drew.alloc (.cells (old++new++Builtin.zeroCells z.cells (grownCap w (sLen+n) sCap elem-(sLen+n))) elem),?_,qnV _ _,rfl,⟨rfl,rfl⟩,?_⟩
 .exact Nat.le_add_right (sLen+n) _
 .rcases hx with hx|⟨e,hx⟩ <;>
  simp[Builtin.append_,h0,h1,qL hu,qL hx,sizeOf,typeInfo,zeroValue,hi,hz,hsz,hl,hn,h63',h48,Question.forced,hf,ho,newRow,grownCap]
def VRs.pre{zy:List AV}{c:Array Value}{vs rest:List Value}(h:VRs σ Z zy vs)(hc:c.toList=vs++rest):∃z:List Value,c.toList=z/\VRs σ Z zy (z.take zy.length) :=
 ⟨_,hc,by rw[h.length,List.take_left];exact h⟩
def qur(hσ:qag σ)(r:Rel σ Z B h w){esz bytes:Nat}{consume:Bool}{s' x':Operand}{ts tx elem:TypeId}{args:Array TypeId}{b o' len cap:Nat}(h3:VR σ Z (.sl b o' len cap true) (a.eval s'))
  (h0':args[0]?=some ts) (h1':args[1]?=some tx) (hu:P.underlying ts=some (.slice elem)) (hx:P.underlying tx=some .string\/∃e,P.underlying tx=some (.slice e)) (hs:zA P elem esz=true) {i:TypeInfo}(hi:P.info? elem=some i) {z:Value}(hz:i.zero=some z) (hzs:z.cells.size=i.size) (hsz:i.size=esz) (hby:i.bytes=bytes)
  {n:Nat}{cs:List AV}{vs:List Value}(h7:VRs σ Z cs vs) (h8:vs.length=n*esz) (h9:∀w',w'.heap=w.heap->(Builtin.lenOf (a.eval x')).run P w' = .ok n w') (h10:∀m,m<=n->∀w',w'.heap=w.heap->(Builtin.firstCells esz m (a.eval x')).run P w' = .ok (vs.take (m*esz)).toArray w')
  (hexec:∀{r:Value}{w':World},(Builtin.append_ args o.type #[a.eval s',a.eval x']).run P w = .ok r w'->(execOp a.eval o).run P w = .ok (.value r) w')
  (h6:qE (len+n) (λneed=>qv (Nat.ble need qe) (qv (Nat.ble (Nat.mul need bytes) qe) (qv (and consume (Nat.beq cap len)) (qas h b (λe w a ys=>qv (qQ cs) (qv w (qv a (qv (Nat.beq e esz) (qiJ ys (λq=>qv (Nat.beq q (Nat.add o' (Nat.mul len esz))) (qdX o' ys (λzs=>qnY zs cs (λcs' =>
    qd9 h b .dead (λh1=>vg h1 (.cells esz true true cs') (λb' h'=>k (.own b' need) h')))))))))))))))):Res P σ Z B h w (execOp a.eval o) k:=by
 have hfull:∀w',w'.heap=w.heap->(Builtin.firstCells esz n (a.eval x')).run P w' = .ok vs.toArray w':=Ag
 have h6':=(Iff.of_eq (qO (len+n) _)).1 h6;clear h6;obtain⟨h11,h12⟩:=(qf _ _).1 h6';obtain⟨h13,h14⟩:=(qf _ _).1 h12;rw[qhj]at h11 h13;have b1:len+n<=qe:=Ae;have b2:(len+n)*bytes<=qe:=Ae;obtain⟨hcap,h15⟩:=(qf _ _).1 h14;simp only[zzB]at hcap;obtain rfl:cap=len:=Nat.eq_of_beq_eq_true hcap.2;obtain⟨e,wf,af,ys,hg,h16⟩:=(zC _ _ _).1 h15;obtain⟨hco,h17⟩:=(qf (qQ cs) _).1 h16;obtain⟨hwf,h18⟩:=(qf wf _).1 h17;obtain⟨haf,h19⟩:=(qf af _).1 h18;obtain⟨hee,h20⟩:=(qf (Nat.beq e esz) _).1 h19;clear h14 h15 h16 h17 h18 h19;subst hwf haf;have hee:e=esz:=Ae
 subst hee;rw[ka]at h20;obtain⟨hm,h20⟩:=(qf _ _).1 h20;have hm:ys.length=o'+cap*e:=Ae
 obtain⟨hod,h20⟩:=(xo _ _ _).1 h20;rw[qa7]at h20;obtain⟨hf,hnew⟩:=(qaE _ _ _ _).1 h20;obtain⟨r1,k1⟩:=r.weak hg hf .dead (.inl rfl);obtain⟨L,c,off,g1,g2,g3⟩:=h3.un_sl;have hnew':=(xJ _ _ _).1 hnew;obtain⟨hLe,cc,cty,cfz,f1,f2,f3,f4,f5⟩:=r.cells b L e true true ys g1 hg
 have hrow:∃us,VRs σ Z (ys.drop o') us/\us.length=cap*e/\(∀j v,us[j]?=some v->w.cell? ⟨L.blk,L.off+o'+j,none⟩=some v):=by
  obtain⟨ds,us,e1,e2,e3,e4⟩:=qjo r g1 (off:=o') (n:=cap*e) (k:=λl=>l=ys.drop o') (by
   refine(zC _ _ _).2 ⟨_,_,_,_,hg,(xo _ _ _).2 ⟨hod,(xe _ _ _).2 ⟨by simp;exact Ab,?_⟩⟩⟩
   rw[zzt (by simp;exact Ab)])
  exact Ag
 obtain⟨us,e2,e3,e4⟩:=hrow
 have anew:∀{a0:Option Addr}{c:Nat},a.eval s' = .slice a0 cap c->c<cap+n->
   (∀w',w'.heap=w.heap->(Builtin.firstCells e cap (.slice a0 cap c)).run P w' = .ok us.toArray w')->Res P σ Z B h w (execOp a.eval o) k:=by
  intro a0 c ev hlt hold;obtain⟨newCap,rest,w',q3,q4,q5,eio,q6⟩:=qd6 (rt:=o.type) (a0:=a0) (sLen:=cap) (sCap:=c) h0' h1' hu hx hi hsz hz (h9 w rfl) (hfull w.drew rfl) (old:=us.toArray) (hold w.drew rfl) hlt b1 I7;have hsize:(us.toArray++vs.toArray++rest:Array Value).toList=(us++vs)++rest.toList:=by simp
  obtain⟨Z',h',q7,q8,q9,q10⟩:=qh7 (w1:=w') r1 (c:=us.toArray++vs.toArray++rest) (VRs.pre (e2.append h7) hsize) hnew q5 (hio:=eio);refine⟨_,_,h',Z',w',q7,.inl (hexec (by rw[ev];exact q6)),?_,q8,k1.trans q9⟩
  exact VR.own _ _ newCap _ q10 Ab (by
   have p1:(us.toArray++vs.toArray++rest:Array Value).size=(cap*e+n*e)+(newCap-(cap+n))*e:=by
    rw[Array.size_append,q4,hzs,hsz];simp[h8,e3]
   have p2:cap+n+(newCap-(cap+n))=newCap:=Ab
   rw[p1,<- Nat.add_mul,<- Nat.add_mul,p2];exact Ae)
 have hold:(off=L.off+o'\/cap=0)->∀w',w'.heap=w.heap->(Builtin.firstCells e cap (.slice (some ⟨L.blk,off,none⟩) cap c)).run P w' = .ok us.toArray w':=by
  intro ho w' hw;refine I5 ?_;refine qfl e3 (λj v hj=>?_)
  have hc:∀a,w'.cell? a=w.cell? a:=λa=>E9
  exact Ag
 rcases g3 with⟨rfl,hc⟩|⟨hl0,hc0,hcr⟩
 .by_cases hlt:c<cap+n
  .exact Ae
  .have hroom:L.off+o'+c*e<=L.size/\cap<=c:=Ag
   have hmul:(cap+n)*e<=c*e:=Nat.mul_le_mul_right _ Ab;rw[Nat.add_mul]at hmul;have hcl:=h7.length;obtain⟨cc',hspl,hw⟩:=qea vs (L.off+ys.length) w cc f1 (by rw[h8];exact Ab);obtain⟨r2,k2⟩:=r.grow g1 hg hf o' hod cs vs h7 (by rw[hcl,h8];exact Ab) .dead true Ae f1 hspl hw (qfm _ _ _ _)
   have hst:=run_storeCells_cells (P:=P) L.blk (L.off+ys.length) vs 0 w (λj hj=>by
     rw[qde f1];exact Ag) (λj hj=>by
     rw[qjk f1];simp only[decide_eq_false_iff_not];exact f5 (by simp) _ Ab) (qgu hσ h7 hco)
   refine⟨_,.slice (some ⟨L.blk,L.off+o',none⟩) (cap+n) c,_,_,w.setCells L.blk (L.off+ys.length) vs,hnew',.inl (hexec ?_),?_,r2,k2⟩
   .rw[g2];refine wC h0' h1' hu hx hs (h9 w rfl) (hfull w rfl) Ab (λa0 ha0=>?_) Ag
    cases ha0;rw[jM];have:L.off+o'+cap*e=L.off+ys.length:=Ab
    rw[this];exact Ab
   .exact VR.own (σ:=σ) (Z:=Z.add h.sz ⟨L.blk,L.off+o',L.size,e⟩) h.sz (cap+n) c ⟨L.blk,L.off+o',L.size,e⟩ (Ren.add_self _ _ _) Ab hroom.1
 .obtain rfl:cap=0:=Ab
  obtain rfl:c=0:=Ab
  cases n with
  | succ n=>exact Ag
  | zero =>
   have hvs:vs=[]:=Ae
   obtain⟨r2,k2⟩:=r1.idle (.cells e true true (ys.drop o'++cs));refine⟨_,.slice (some ⟨L.blk,off,none⟩) 0 0,_,_,w,hnew',.inl (hexec ?_),.own0 _ _ (zzh Ab (Nat.le_max_right _ _)),r2,k1.trans k2⟩;rw[g2];exact Bh
def qwy(hσ:qag σ)(r:Rel σ Z B h w)(ht:TR σ Z t a.tmps){esz bytes:Nat}{consume:Bool}{s x:O}{s' x':Operand}{ts tx elem:TypeId}{args:Array TypeId}{ops:Array Operand}(ho:o.op = .call ⟨.builtin .append,ops,args⟩)(hops:ops.toList=[s',x'])
  (h0':args[0]?=some ts) (h1':args[1]?=some tx) (he:wu P ts=some elem) (hx:P.underlying tx=some .string\/∃e,P.underlying tx=some (.slice e)) (hs:zA P elem esz=true) (hb:qeq P elem bytes=true) {i:TypeInfo}(hi:P.info? elem=some i) {z:Value}(hz:i.zero=some z) (hzs:z.cells.size=i.size)
  (hc1:qR s' s=true) (hc2:qR x' x=true) (hk:opK orc (.app esz bytes consume s x) t h k):Res P σ Z B h w (execOp a.eval o) k:=by
 obtain rfl:ops = #[s',x']:=Ag
 obtain⟨i',hi',hsz⟩:=qoW hs;rw[hi]at hi';cases hi';obtain⟨i',hi',hby⟩:=qmG hb;rw[hi]at hi';cases hi';obtain⟨u,h2,h3⟩:=zx ht hc1 hk;obtain⟨v,h4,h5⟩:=zx ht hc2 h2;obtain⟨n,cs,vs,h6,h7,h8,h9,h10⟩:=qHF (P:=P) r h5 h4;have hu:=jd he
 have hexec:∀{r:Value}{w':World},(Builtin.append_ args o.type #[a.eval s',a.eval x']).run P w = .ok r w'->(execOp a.eval o).run P w = .ok (.value r) w':=by
  intro r w' hr;simp[execOp,ho,resolve,invoke,builtin,hr]
 have hfull:∀w',w'.heap=w.heap->(Builtin.firstCells esz n (a.eval x')).run P w' = .ok vs.toArray w':=Ag
 -- where there is no room at all
 have fromNone:∀{a0:Option Addr},a.eval s' = .slice a0 0 0->qv (Nat.ble n qe) (qv (Nat.ble (n*bytes) qe) (vg h (.cells esz true true cs) (λb h'=>k (.own b n) h')))->Res P σ Z B h w (execOp a.eval o) k:=by
  intro a0 es h6;obtain⟨h11,h12⟩:=(qf _ _).1 h6;obtain⟨h13,h14⟩:=(qf _ _).1 h12;rw[qhj]at h11 h13;have g1:n<=qe:=of_decide_eq_true h11;have g2:n*bytes<=qe:=of_decide_eq_true h13;cases n with
  | zero =>
   have hvs:vs=[]:=Ae
   have hnew':=(xJ _ _ _).1 h14;obtain⟨r2,k2⟩:=r.idle (.cells esz true true cs);refine⟨_,.slice a0 0 0,_,_,w,hnew',.inl (hexec ?_),.own0 _ _ (zzh (Nat.lt_succ_self _) (Nat.le_max_right _ _)),r2,k2⟩;rw[es];exact Bh
  | succ n =>
   obtain⟨newCap,rest,w',g3,g4,g5,gio,g6⟩:=qd6 (rt:=o.type) h0' h1' hu hx hi hsz hz (h9 w rfl) (hfull w.drew rfl) (old:=#[]) (a0:=a0) (sLen:=0) (sCap:=0) (qk0 _ _ _) Ab Ab (by rw[hby];simpa using g2);have hsize:(#[]++vs.toArray++rest:Array Value).toList=vs++rest.toList:=by simp
   obtain⟨Z',h',g7,g8,g9,g10⟩:=qh7 (w1:=w') r (c:=#[]++vs.toArray++rest) (VRs.pre h7 hsize) h14 g5 (hio:=gio);refine⟨_,_,h',Z',w',g7,.inl (hexec (by rw[es];exact g6)),?_,g8,g9⟩
   have:=VR.own (σ:=σ) h.sz (n+1) newCap _ g10 Ab (by
    have e1:(#[]++vs.toArray++rest:Array Value).size=(n+1)*esz+(newCap-(0+(n+1)))*esz:=by
     rw[Array.size_append,g4,hzs,hsz];simp[h8]
    rw[e1];show 0+newCap*esz<=_;rw[<- Nat.add_mul,Nat.zero_add];apply Nat.le_of_eq;congr 1;exact Ab)
   exact Ae
 cases u<;>try exact h6.elim
 .grind[VR.un_nils]
 .rename_i b o' len cap loose;obtain⟨L,c,off,g1,g2,g3⟩:=h3.un_sl;cases loose with
  | true=>exact qur hσ r h3 h0' h1' hu hx hs hi hz hzs hsz hby h7 h8 h9 h10 hexec h6
  | false =>
  have hcc:c=cap:=Ag
  have h6':(Bool.rec (motive:=λ_=>Prop)
    (qv (Nat.ble (len+n) qe) (qv (Nat.ble ((len+n)*bytes) qe)
     (qfG h b o' (len*esz) (λold=>qnY old cs (λcs=>vg h (.cells esz true true cs) (λb' h'=>k (.own b' (len+n)) h'))))))
    (Nat.rec (motive:=λ_=>Prop) (k (.sl b o' (len+n) cap false) h) (λ_ _=>qE (o'+len*esz) (λat_=>stK h b at_ cs (λh'=>k (.sl b o' (len+n) cap false) h'))) n)
    (Nat.ble (len+n) cap):Prop):=Ae
  clear h6;rw[qfV,qhj]at h6';rcases h6' with⟨hble,h6⟩|⟨hble,h6⟩
  .-- it does not fit
   have hgr:cap<len+n:=Ae
   obtain⟨h11,h12⟩:=(qf _ _).1 h6;obtain⟨h13,h14⟩:=(qf _ _).1 h12;rw[qhj]at h11 h13;have b1:len+n<=qe:=of_decide_eq_true h11;have b2:(len+n)*bytes<=qe:=of_decide_eq_true h13;obtain⟨ds,us,e1,hds,hul,e4⟩:=qjo r g1 h14;rw[qa7]at e1
   have hold:∀w',w'.heap=w.heap->(Builtin.firstCells esz len (.slice (some ⟨L.blk,off,none⟩) len c)).run P w' = .ok us.toArray w':=by
    intro w' hw;refine I5 ?_;refine qfl hul (λj v hj=>?_)
    have hc:∀a,w'.cell? a=w.cell? a:=λa=>E9
    exact Ag
   obtain⟨newCap,rest,w',e3,e4,e5,eio,e6⟩:=qd6 (rt:=o.type) (a0:=some ⟨L.blk,off,none⟩) (sLen:=len) (sCap:=c) h0' h1' hu hx hi hsz hz (h9 w rfl) (hfull w.drew rfl) (old:=us.toArray) (hold w.drew rfl) Ab b1 I7;have hsize:(us.toArray++vs.toArray++rest:Array Value).toList=(us++vs)++rest.toList:=by simp
   obtain⟨Z',h',e7,e8,e9,e10⟩:=qh7 (w1:=w') r (c:=us.toArray++vs.toArray++rest) (VRs.pre (hds.append h7) hsize) e1 e5 (hio:=eio);refine⟨_,_,h',Z',w',e7,.inl (hexec (by rw[g2];exact e6)),?_,e8,e9⟩
   exact VR.own _ _ newCap _ e10 Ab (by
    have e1:(us.toArray++vs.toArray++rest:Array Value).size=(len*esz+n*esz)+(newCap-(len+n))*esz:=Gv
    have e2:len+n+(newCap-(len+n))=newCap:=Ab
    rw[e1,<- Nat.add_mul,<- Nat.add_mul,e2];exact Ae)
  .-- it fits
   have hfit:len+n<=cap:=Ae
   cases n with
   | zero =>
    have h6':k (.sl b o' len cap false) h:=h6;refine Res.pure r h6' (v':=a.eval s') (hexec ?_) h3;rw[g2];have hvs:vs=[]:=by simpa using h8
    have:=wC (rt:=o.type) (a0:=some ⟨L.blk,off,none⟩) (sLen:=len) (sCap:=c) (w':=w) h0' h1' hu hx hs (h9 w rfl) (hfull w rfl) Ab (λa0 ha0=>by subst hvs;rfl) (λhh=>by cases hh)
    exact Ab
   | succ n =>
    have hoff:off=L.off+o':=by rcases g3 with⟨g3,_⟩|⟨_,g3,_⟩<;>omega
    have h6':stK h b (o'+len*esz) cs (λh'=>k (.sl b o' (len+(n+1)) cap false) h'):=Ae
    obtain⟨h',w',e1,e2,e3,e4⟩:=qzZ (P:=P) hσ r g1 h7 h6';refine⟨_,.slice (some ⟨L.blk,off,none⟩) (len+(n+1)) c,h',Z,w',e1,.inl (hexec ?_),?_,e2,e3⟩
    .rw[g2];refine wC h0' h1' hu hx hs (h9 w rfl) (hfull w rfl) Ab (λa0 ha0=>?_) (λhh=>by cases hh)
     grind[jM]
    .rw[hoff];exact .sl _ _ _ _ _ _ L g1 (.inl hcc)
 .-- a row that stays
  cases n with
  | zero =>
   have h6':k (.fz _ _) h:=h6;refine Res.pure r h6' (v':=a.eval s') (hexec ?_) h3;have hvs:vs=[]:=Ae
   rcases h3.un_fz with⟨k0,off,c,arr,e1,e2,_⟩|⟨rfl,_,a0,e1⟩
   .rw[e1];have:=wC (rt:=o.type) (a0:=some ⟨k0,off,none⟩) (sCap:=c) (w':=w) h0' h1' hu hx hs (h9 w rfl) (hfull w rfl) (by simpa using e2) (λa0 ha0=>by subst hvs;rfl) (λhh=>by cases hh)
    exact Ab
   .rw[e1];exact Bh
  | succ n=>exact Ae
 .grind[VR.un_e0]
 .-- a row of one's own
  rename_i b m
  have h6':qv (Nat.ble (m+n) qe) (qv (Nat.ble ((m+n)*bytes) qe) (qv consume (qas h b (λe w a ys=>qv (qQ cs) (qv w (qv a (qv (Nat.beq e esz) (qiJ ys (λq=>qv (Nat.beq q (m*esz)) (qnY ys cs (λcs' =>
    qd9 h b .dead (λh1=>vg h1 (.cells esz true true cs') (λb' h'=>k (.own b' (m+n)) h'))))))))))))):=Ae
  clear h6;obtain⟨h11,h12⟩:=(qf _ _).1 h6';obtain⟨h13,h14⟩:=(qf _ _).1 h12;rw[qhj]at h11 h13;have b1:m+n<=qe:=of_decide_eq_true h11;have b2:(m+n)*bytes<=qe:=of_decide_eq_true h13;obtain⟨_,h15⟩:=(qf _ _).1 h14;obtain⟨e,wf,af,ys,hg,h16⟩:=(zC _ _ _).1 h15;obtain⟨hco,h17⟩:=(qf (qQ cs) _).1 h16;obtain⟨hwf,h18⟩:=(qf wf _).1 h17;obtain⟨haf,h19⟩:=(qf af _).1 h18;obtain⟨hee,h20⟩:=(qf (Nat.beq e esz) _).1 h19;clear h14 h15 h16 h17 h18 h19;subst hwf haf;have hee:e=esz:=Ae
  subst hee;rw[ka]at h20;obtain⟨hm,h20⟩:=(qf _ _).1 h20;have hm:ys.length=m*e:=Ae
  rw[qa7]at h20;obtain⟨hf,hnew⟩:=(qaE _ _ _ _).1 h20;obtain⟨r1,k1⟩:=r.weak hg hf .dead (.inl rfl)
  -- where the row is made anew
  have anew:∀{us:List Value}{a0:Option Addr}{c:Nat},a.eval s' = .slice a0 m c->c<m+n->VRs σ Z ys us->us.length=m*e->
    (∀w',w'.heap=w.heap->(Builtin.firstCells e m (.slice a0 m c)).run P w' = .ok us.toArray w')->Res P σ Z B h w (execOp a.eval o) k:=by
   intro us a0 c ev hlt hds hul hold;obtain⟨newCap,rest,w',e3,e4,e5,eio,e6⟩:=qd6 (rt:=o.type) (a0:=a0) (sLen:=m) (sCap:=c) h0' h1' hu hx hi hsz hz (h9 w rfl) (hfull w.drew rfl) (old:=us.toArray) (hold w.drew rfl) hlt b1 I7;have hsize:(us.toArray++vs.toArray++rest:Array Value).toList=(us++vs)++rest.toList:=by simp
   obtain⟨Z',h',e7,e8,e9,e10⟩:=qh7 (w1:=w') r1 (c:=us.toArray++vs.toArray++rest) (VRs.pre (hds.append h7) hsize) hnew e5 (hio:=eio);refine⟨_,_,h',Z',w',e7,.inl (hexec (by rw[ev];exact e6)),?_,e8,k1.trans e9⟩
   exact VR.own _ _ newCap _ e10 Ab (by
    have e1:(us.toArray++vs.toArray++rest:Array Value).size=(m*e+n*e)+(newCap-(m+n))*e:=Gv
    have e2:m+n+(newCap-(m+n))=newCap:=Ab
    rw[e1,<- Nat.add_mul,<- Nat.add_mul,e2];exact Ae)
  rcases h3.un_own with⟨rfl,⟨a0,ev⟩,hbn⟩|⟨L,c,g1,g2,g3,ev⟩
  .-- nil
   have hys:ys=[]:=Ag
   subst hys;cases n with
   | zero =>
    have hvs:vs=[]:=Ae
    have hnew':=(xJ _ _ _).1 hnew;obtain⟨r2,k2⟩:=r1.idle (.cells e true true ([]++cs));refine⟨_,.slice a0 0 0,_,_,w,hnew',.inl (hexec ?_),.own0 _ _ (zzh (Nat.lt_succ_self _) (Nat.le_max_right _ _)),r2,k1.trans k2⟩;rw[ev];exact Bh
   | succ n=>exact anew (us:=[]) ev Ab .nil (by simp) (λw' _=>Hq)
  .obtain⟨hLe,cc,cty,cfz,f1,f2,f3,f4,f5⟩:=r.cells b L e true true ys g1 hg
   have hrow:∃us,VRs σ Z ys us/\us.length=m*e/\(∀j v,us[j]?=some v->w.cell? ⟨L.blk,L.off+0+j,none⟩=some v):=by
    obtain⟨ds,us,e1,e2,e3,e4⟩:=qjo r g1 (off:=0) (n:=m*e) (k:=λl=>l=ys) (by
     refine(zC _ _ _).2 ⟨_,_,_,_,hg,(xo _ _ _).2 ⟨zzu _,(xe _ _ _).2 ⟨by simp;exact Ab,?_⟩⟩⟩
     rw[List.drop_zero,zzt Ab])
    exact Ag
   obtain⟨us,e2,e3,e4⟩:=hrow
   by_cases hlt:c<m+n
   .refine anew ev hlt e2 e3 (λw' hw=>?_)
    refine I5 ?_;refine qfl e3 (λj v hj=>?_)
    have hc:∀a,w'.cell? a=w.cell? a:=λa=>E9
    rw[hc];exact Ag
   .-- in place
    rw[hLe]at g3;have hmul:(m+n)*e<=c*e:=Nat.mul_le_mul_right _ Ab;rw[Nat.add_mul]at hmul;have hcl:=h7.length;obtain⟨cc',hspl,hw⟩:=qea vs (L.off+ys.length) w cc f1 (by rw[h8];exact Ab);obtain⟨r2,k2⟩:=r.grow g1 hg hf 0 (zzu _) cs vs h7 (by rw[hcl,h8];exact Ab) .dead true (.inl ⟨rfl,rfl⟩) f1 hspl hw (qfm _ _ _ _)
    have hst:=run_storeCells_cells (P:=P) L.blk (L.off+ys.length) vs 0 w (λj hj=>by
      rw[qde f1];exact Ag) (λj hj=>by
      rw[qjk f1];simp only[decide_eq_false_iff_not];exact f5 (by simp) _ Ab) (qgu hσ h7 hco)
    have hnew':=(xJ _ _ _).1 hnew;refine⟨_,.slice (some ⟨L.blk,L.off,none⟩) (m+n) c,_,_,w.setCells L.blk (L.off+ys.length) vs,hnew',.inl (hexec ?_),?_,r2,k2⟩
    .rw[ev]
     grind[wC,jM]
    .have:=VR.own (σ:=σ) (Z:=Z.add h.sz ⟨L.blk,L.off+0,L.size,e⟩) h.sz (m+n) c ⟨L.blk,L.off+0,L.size,e⟩ (Ren.add_self _ _ _) Ab Ab;exact this
def qxh(hσ:qag σ)(r:Rel σ Z B h w)(ht:TR σ Z t a.tmps){z:List AV}{x:O}{x':Operand}{td elem:TypeId}{args:Array TypeId}{ops:Array Operand}(ho:o.op = .call ⟨.builtin .clear,ops,args⟩)(hops:ops.toList=[x'])
  (h0:args[0]?=some td) (he:wu P td=some elem) (hz:qbk P elem z=true) (hc1:qR x' x=true) (hk:opK orc (.clear z x) t h k):Res P σ Z B h w (execOp a.eval o) k:=by
 obtain rfl:ops = #[x']:=Ag
 obtain⟨i,v,h1,h2,h3,h4⟩:=qgq hz;have hv:=qda (σ:=σ) (Z:=Z) _ _ h3;obtain⟨u,h5,h6⟩:=zx ht hc1 hk;have hu:=jd he
 have hexec:∀{r:Value}{w':World},(Builtin.clear_ args o.type #[a.eval x']).run P w = .ok r w'->(execOp a.eval o).run P w = .ok (.value r) w':=by
  intro r w' hr;simp[execOp,ho,resolve,invoke,builtin,hr]
 cases u<;>try exact h5.elim
 .refine Res.pure r (v:=.tup []) h5 (v':=.tuple #[]) (hexec ?_) (.tup _ _ .nil);rw[h6.un_nils];simp[Builtin.clear_,h0,qL hu]
 .rename_i b o' len cap loose;obtain⟨L,c,off,g1,g2,g3⟩:=h6.un_sl;cases len with
  | zero =>
   have h5':k (.tup []) h:=h5;refine Res.pure r (v:=.tup []) h5' (v':=.tuple #[]) (hexec ?_) (.tup _ _ .nil);rw[g2];simp[Builtin.clear_,h0,qL hu]
  | succ n =>
   have hoff:off=L.off+o':=by rcases g3 with⟨g3,_⟩|⟨g3,_,_⟩<;>omega
   have h5':ql2 z (n+1) (λcs=>stK h b o' cs (λh'=>k (.tup []) h')):=h5
   rw[qeN]at h5';have hrep:=qsA hv (n+1) v.cells (.inr rfl);obtain⟨h',w',e1,e2,e3,e4⟩:=qzZ (P:=P) hσ r g1 hrep h5';refine⟨.tup [],.tuple #[],h',Z,w',e1,.inl (hexec ?_),.tup _ _ .nil,e2,e3⟩;have hl:=hv.length;rw[g2,hoff]
   have e5:(Builtin.zeroCells v.cells (n+1)).toList=((Array.range ((n+1)*z.length)).map (λi=>v.cells[i % v.cells.size]!)).toList:=by
    simp only[Builtin.zeroCells];rw[show v.cells.size=z.length from Ae]
   rw[<- e5]at e4;simp[Builtin.clear_,h0,qL hu,qdF h1 h2,e4]
end ops
def Rel.newMap{B:Nat->Prop}{h:Hp}{w w':World}(r:Rel σ Z B h w){es0:List (AV×AV)}{o:Obj}(hes:qbY σ Z es0 o)(hw:w'.heap=w.heap.push o)(hio:w'.os=w.os/\w'.output=w.output) :
  Rel σ (Z.add h.sz ⟨w.heap.size,0,0,0⟩) B (h.push (.map es0)) w'/\Kept Z B h w (Z.add h.sz ⟨w.heap.size,0,0,0⟩) (h.push (.map es0)) w':=by
 have hold:∀k,k<w.heap.size->w'.heap[k]?=w.heap[k]?:=by intro k hk;rw[hw,Array.getElem?_push];rw[if_neg Ab]
 have hsz:w.heap.size<=w'.heap.size:=by rw[hw,Array.size_push];exact Nat.le_succ _
 have hnew:w'.heap[w.heap.size]?=some o:=by rw[hw];simp
 have hext:∀b L,Z b=some L->(Z.add h.sz ⟨w.heap.size,0,0,0⟩) b=some L:=by
  intro b L hb;have:=r.dom b L hb;simp only[Ren.add];rw[if_neg Ab];exact hb
 have hle:Z.le (Z.add h.sz ⟨w.heap.size,0,0,0⟩):=⟨hext,λ_ _ h=>h,Nat.le_max_left _ _⟩
 have hwf:=r.blk_lt
 have hget:∀b x,(h.push (.map es0)).tr.get b=some x->b≠h.sz->h.tr.get b=some x:=by
  intro b x hx hb;simp only[Hp.push,zz4]at hx;rwa [if_neg hb]at hx
 have hget':∀x,(h.push (.map es0)).tr.get h.sz=some x->x = .map es0:=by
  intro x hx;simp[Hp.push,zz4]at hx;exact hx.symm
 have hren:∀b L,(Z.add h.sz ⟨w.heap.size,0,0,0⟩) b=some L->(b=h.sz/\L=⟨w.heap.size,0,0,0⟩)\/(b≠h.sz/\Z b=some L):=by
  intro b L hb;simp only[Ren.add]at hb;split at hb
  .left;exact Ag
  .right;exact Ag
 refine⟨⟨?_,?_,?_,?_,?_,?_,?_,?_,?_,⟨Nat.max_le.2 ⟨Nat.le_succ_of_le r.dn.1,zzL _⟩,?_⟩⟩,⟨?_,?_,rfl,?_,?_,?_,hio,λ_ _ h=>h,λ_ _ h=>.inl h,Nat.le_max_left _ _⟩⟩
 .intro b L hb;exact Ec
 .intro b L e' wf' af' cs' hb hg;rcases hren b L hb with⟨rfl,rfl⟩|⟨hne,hb⟩
  .cases hget' _ hg
  .exact Bi
 .intro b L es hb hg;rcases hren b L hb with⟨rfl,rfl⟩|⟨hne,hb⟩
  .cases hget' _ hg;exact En
  .exact Cx
 .intro b L e' af' cs' hb hg b' L' x hb' hx hd he;rcases hren b L hb with⟨rfl,rfl⟩|⟨hne,hb1⟩<;>rcases hren b' L' hb' with⟨rfl,rfl⟩|⟨hne',hb'⟩
  .rfl
  .have:=hwf b' L' hb' _ (hget _ _ hx hne') hd;simp only at he;exact Ab
  .have:=hwf b L hb1 _ (hget _ _ hg hne) (by simp);simp only at he;exact Ab
  .exact Dn
 .intro b L es hb hg b' L' x hb' hx hd he;rcases hren b L hb with⟨rfl,rfl⟩|⟨hne,hb1⟩<;>rcases hren b' L' hb' with⟨rfl,rfl⟩|⟨hne',hb'⟩
  .rfl
  .have:=hwf b' L' hb' _ (hget _ _ hx hne') hd;simp only at he;exact Ab
  .have:=hwf b L hb1 _ (hget _ _ hg hne) (by simp);simp only at he;exact Ab
  .exact De
 .intro b L e' wf' cs' hb hg b' L' e2 wf2 af2 cs2 hb' hx he;rcases hren b L hb with⟨rfl,rfl⟩|⟨hne,hb1⟩<;>rcases hren b' L' hb' with⟨rfl,rfl⟩|⟨hne',hb'⟩
  .cases hget' _ hg
  .cases hget' _ hg
  .cases hget' _ hx
  .exact Fh
 .intro b L hb hf;rcases hren b L hb with⟨rfl,rfl⟩|⟨_,hb⟩
  .exact qaB r.base (zzL _)
  .exact r.flr b L hb hf
 .exact qgs r.base hsz
 .intro k arr hk;obtain⟨⟨ty',fz',h1⟩,h2⟩:=r.frz k arr hk;have hkl:k<w.heap.size:=Ag
  refine⟨⟨ty',fz',by rw[hold k hkl];exact h1⟩,λb L x hb hx hd=>?_⟩
  rcases hren b L hb with⟨rfl,rfl⟩|⟨hne,hb⟩
  .show w.heap.size≠k;exact Ab
  .exact Ag
 .intro b L hb;rcases hren b L hb with⟨rfl,rfl⟩|⟨_,hb⟩
  .show w.heap.size<_;rw[hw,Array.size_push];exact Nat.lt_succ_self _
  .exact zzh (r.dn.2 b L hb) hsz
 .intro b hb;simp only[Ren.add];rw[if_neg Ab]
 .exact Nat.le_succ _
 .intro b _ hb;simp only[Hp.push,zz4];rw[if_neg Ab]
 all_goals grind[Rel.base]
def Rel.putMap{B:Nat->Prop}{h:Hp}{w w':World}(r:Rel σ Z B h w){b:Nat}{L:Loc}{es es':List (AV×AV)}(hb:Z b=some L)(hg:h.tr.get b=some (.map es))(hf:h.fl<=b)
  {o:Obj}(ho:w.heap[L.blk]?=some o) {o':Obj}(hes:qbY σ Z es' o') (hw:w'.heap=w.heap.setIfInBounds L.blk o') (hio:w'.os=w.os/\w'.output=w.output) :
  Rel σ Z B (h.put b (.map es')) w'/\Kept Z B h w Z (h.put b (.map es')) w':=by
 have hlt:L.blk<w.heap.size:=Ag
 have hold:∀k,k≠L.blk->w'.heap[k]?=w.heap[k]?:=by
  intro k hk;rw[hw,zzw];rw[if_neg Ab]
 have hnew:w'.heap[L.blk]?=some o':=Ix
 have hget:∀b' x,(h.put b (.map es')).tr.get b'=some x->b'≠b->h.tr.get b'=some x:=by
  intro b' x hx hne;simp only[Hp.put,zz4]at hx;rwa [if_neg hne]at hx
 have hgb:∀x,(h.put b (.map es')).tr.get b=some x->x = .map es':=by
  intro x hx;simp[Hp.put,zz4]at hx;exact hx.symm
 have hother:∀b' L' x,Z b'=some L'->h.tr.get b'=some x->x≠.dead->b'≠b->L'.blk≠L.blk :=
  λb' L' x hb' hx hd hne he=>De
 refine⟨⟨r.dom,?_,?_,?_,?_,?_,r.flr,?_,?_,⟨r.dn.1,λb L hb=>Hi⟩⟩,⟨λ_ _=>rfl,zzL _,rfl,?_,?_,?_,hio,λ_ _ h=>h,λ_ _ h=>.inl h,zzL _⟩⟩
 .intro b' L' e' wf' af' cs' hb' hg'
  by_cases hne:b'=b
  .subst hne;cases hgb _ hg'
  .have hg2:=hget _ _ hg' hne;obtain⟨h1,c,ty,fz,h2,h3⟩:=r.cells b' L' e' wf' af' cs' hb' hg2;exact Ag
 .intro b' L' es2 hb' hg'
  by_cases hne:b'=b
  .subst hne;rw[hb]at hb';cases hb';cases hgb _ hg';exact by grind[Rel.maps]
  .have hg2:=hget _ _ hg' hne;obtain⟨h1,ob,h2,h3⟩:=r.maps b' L' es2 hb' hg2;exact Ag
 .intro b1 L1 e1 af1 cs1 hb1 hg1 b2 L2 x hb2 hx hd he2
  by_cases m1:b1=b
  .subst m1;cases hgb _ hg1
  .have hg1':=hget _ _ hg1 m1
   by_cases m2:b2=b
   .subst m2;rw[hb]at hb2;cases hb2;exact Ag
   .exact r.excl b1 L1 e1 af1 cs1 hb1 hg1' b2 L2 x hb2 (hget _ _ hx m2) hd he2
 .intro b1 L1 es1 hb1 hg1 b2 L2 x hb2 hx hd he2
  by_cases m1:b1=b
  .subst m1;rw[hb]at hb1;cases hb1
   by_cases m2:b2=b1
   .exact m2
   .exact Ag
  .have hg1':=hget _ _ hg1 m1
   by_cases m2:b2=b
   .subst m2;rw[hb]at hb2;cases hb2;exact Ag
   .exact r.exclm b1 L1 es1 hb1 hg1' b2 L2 x hb2 (hget _ _ hx m2) hd he2
 .intro b1 L1 e1 wf1 cs1 hb1 hg1 b2 L2 e2 wf2 af2 cs2 hb2 hg2 he2
  by_cases m1:b1=b
  .subst m1;cases hgb _ hg1
  .by_cases m2:b2=b
   .subst m2;cases hgb _ hg2
   .exact r.app b1 L1 e1 wf1 cs1 hb1 (hget _ _ hg1 m1) b2 L2 e2 wf2 af2 cs2 hb2 (hget _ _ hg2 m2) he2
 .rw[hw,Array.size_setIfInBounds];exact r.base
 .intro k arr hk;obtain⟨⟨ty',fz',h6⟩,h7⟩:=r.frz k arr hk;have hne:L.blk≠k:=Ag
  refine⟨⟨ty',fz',by rw[hold k Ab];exact h6⟩,λb' L' x hb' hx hd=>?_⟩
  by_cases hbb:b'=b
  .subst hbb;rw[hb]at hb';cases hb';exact hne
  .exact Ag
 .intro b' hb' hs';simp only[Hp.put,zz4];rw[if_neg Ab]
 all_goals grind[Rel.flr]
theorem qbI.cons{e:AV×AV}{es:List (AV×AV)}{vs:List MapEntry}(h:qbI σ Z (e::es) vs):∃v us,vs=v::us/\VR σ Z e.1 v.key/\VR σ Z e.2 v.val/\qbI σ Z es us:=by
 cases vs with
 | nil=>cases h.1
 | cons v us =>
  obtain⟨v',h1,h2,h3⟩:=h.2 0 e rfl;simp at h1;subst h1;exact⟨v,us,rfl,h2,h3,by simpa using h.1,λj e' he=>by simpa using h.2 (j+1) e' Ae⟩
theorem qbI.mk{e:AV×AV}{es:List (AV×AV)}{v:MapEntry}{us:List MapEntry}(h1:VR σ Z e.1 v.key)(h2:VR σ Z e.2 v.val)(h:qbI σ Z es us):qbI σ Z (e::es) (v::us):=by
 refine⟨by simp[h.1],λj e' he=>?_⟩
 cases j with
 | zero=>exact Ae
 | succ j=>simpa using h.2 j e' Ae
theorem qbI.nil:qbI σ Z [] []:=⟨rfl,λj e' he=>Ag⟩
def qdy:Option IntKind->TypeDesc
 | none=>.string
 | some q=>.int q
def qym{orc:Orc}(horc:OrcOk P σ orc){kd:Option IntKind}{i:AV}{i':Value}{p:Prop}(hi:VR σ Z i i')(h:qlY orc kd i p):MapKept.IsKey (qdy kd) i'/\p:=by
 unfold qlY at h;split at h
 .have:=hi.un_s;subst this;cases kd
  .exact⟨trivial,h⟩
  .exact h.elim
 .have:=hi.un_i;subst this;cases kd
  .exact h.elim
  .obtain⟨h1,h2⟩:=(qf _ _).1 h;exact⟨(of_decide_eq_true h1).symm,h2⟩
 .rename_i j;cases kd
  .cases hl:orc.len j with
   | none=>simp only[hl]at h;exact h.elim
   | some r =>
    simp only[hl]at h;obtain⟨s,h1,_⟩:=horc.len j r hl;have:=hi.un_sym;rw[this,h1];exact⟨trivial,h⟩
  .exact h.elim
 exact Ae
def qrb{orc:Orc}(horc:OrcOk P σ orc){kd:Option IntKind}{x y:AV}{x' y':Value}(hx:VR σ Z x x')(hy:VR σ Z y y')(hk:MapKept.IsKey (qdy kd) x'){k:Bool->Prop}(h:qfE orc x y k) :
  ∃b,k b/\Instr.sameNow (qdy kd) x' y'=some b:=by
 unfold qfE at h;split at h
 .rename_i c;have ey:=hy.un_s;subst ey;split at h
  .rename_i a;have ex:=hx.un_s;subst ex;rw[zi]at h;cases kd
   .refine⟨_,h,?_⟩;show some ((⟨a.toArray⟩:ByteArray)==⟨c.toArray⟩)=_;rw[qcP]
    congr 1
    rw[Bool.eq_iff_iff,MapKept.bytes_beq,beq_iff_eq];constructor
    .intro e;have:=congrArg (λb=>b.data.toList) e;exact H5
    .intro e;rw[e]
   .exact hk.elim
  .rename_i j;cases hl:orc.len j with
   | none=>simp only[hl]at h;exact h.elim
   | some lv =>
   simp only[hl]at h;have h:qjw (orc.bin .eql (.sym j) (.s c)) (λv=>unB v k):=h
   cases hb:orc.bin .eql (.sym j) (.s c)with
   | none=>simp only[hb]at h;exact h.elim
   | some r =>
    simp only[hb]at h;obtain⟨r',h1,h2⟩:=horc.bin _ _ _ _ hb Z x' _ hx hy;have h':unB r k:=h;unfold unB at h';split at h'<;>try exact h'.elim
    rename_i b;cases kd
    .cases x'<;>try exact hk.elim
     rename_i s;have h3:=h2 P 0 (default:World);cases h1;refine⟨b,h',?_⟩;simp[binOp,Op.stringOp]at h3;show some (s==(⟨c.toArray⟩:ByteArray))=some b;rw[<- h3]
     congr 1
     rw[Bool.eq_iff_iff,MapKept.bytes_beq,beq_iff_eq];constructor
     .intro e;rw[e,ByteArray.toList_eq]
     .intro e;rw[ByteArray.toList_eq]at e;rw[<- e]
    .obtain⟨s,h3,_⟩:=horc.len j lv hl;rw[hx.un_sym,h3]at hk;exact hk.elim
  .exact h.elim
 .rename_i q n;have ey:=hy.un_i;subst ey;split at h<;>try exact h.elim
  rename_i q' m;have ex:=hx.un_i;subst ex;obtain⟨h1,h2⟩:=(qf _ _).1 h;have h1:=of_decide_eq_true h1;subst h1;rw[zi]at h2;cases kd
  .exact hk.elim
  .refine⟨_,h2,?_⟩;have hk':q'=_:=hk;subst hk';simp[qdy,Instr.sameNow,qjg]
 exact Ae
def qtc{orc:Orc}(horc:OrcOk P σ orc){kd:Option IntKind}{i:AV}{i':Value}(hi:VR σ Z i i')(hk:MapKept.IsKey (qdy kd) i') :
  ∀{es:List (AV×AV)}{vs:List MapEntry}(n:Nat),qbI σ Z es vs->∀{k:Option AV->Prop},qdl orc i es k->
   (k none/\Instr.findNow (qdy kd) i' vs n=some none)\/∃v m u,k (some v)/\VR σ Z v u/\Instr.findNow (qdy kd) i' vs n=some (some (m,u))
 | [],vs,n,he,k,h=>by
  have:vs=[]:=List.length_eq_zero_iff.1 he.1.symm;subst this;exact .inl ⟨h,rfl⟩
 | e::es,vs,n,he,k,h=>by
  obtain⟨v,us,rfl,h1,h2,h3⟩:=he.cons;have h':qfE orc i e.1 (λr=>Bool.rec (motive:=λ_=>Prop) (qdl orc i es k) (k (some e.2)) r):=h
  obtain⟨b,h4,h5⟩:=qrb horc hi h1 hk h';cases b with
  | true=>exact .inr ⟨e.2,n,v.val,h4,h2,by simp[Instr.findNow,h5]⟩
  | false =>
   rcases qtc horc hi hk (n+1) h3 h4 with⟨h6,h7⟩|⟨x,m,u,h6,h7,h8⟩
   .exact .inl ⟨h6,by simp[Instr.findNow,h5,h7]⟩
   .exact .inr ⟨x,m,u,h6,h7,by simp[Instr.findNow,h5,h8]⟩
def qAd{orc:Orc}(horc:OrcOk P σ orc){kd:Option IntKind}{i x:AV}{i' x':Value}(hu:i≠.undef/\∀r,i≠.lp r)(hi:VR σ Z i i')(hx:VR σ Z x x')(hk:MapKept.IsKey (qdy kd) i') :
  ∀{es:List (AV×AV)}{vs:List MapEntry}(n:Nat),qbI σ Z es vs->∀{k:List (AV×AV)->Prop},qik orc i x es k->
   (∃es',k es'/\(qrW es->qrW es')/\Instr.findNow (qdy kd) i' vs n=some none/\∀born,qbI σ Z es' (vs++[⟨i',x',born⟩])) \/
    ∃es' j e,k es'/\(qrW es->qrW es')/\vs[j]?=some e/\Instr.findNow (qdy kd) i' vs n=some (some (n+j,e.val))/\Instr.sameNow (qdy kd) i' e.key=some true/\qbI σ Z es' (vs.set j { e with key:=i',val:=x' })
 | [],vs,n,he,k,h=>by
  have:vs=[]:=List.length_eq_zero_iff.1 he.1.symm;subst this;exact .inl ⟨[(i,x)],h,(λ_ e he=>Ag),rfl,by grind[qbI.mk,qbI.nil]⟩
 | e::es,vs,n,he,k,h=>by
  obtain⟨v,us,rfl,h1,h2,h3⟩:=he.cons;have h':qfE orc i e.1 (λr=>Bool.rec (motive:=λ_=>Prop) (qik orc i x es (λl=>k (e::l))) (k ((i,x)::es)) r):=h
  obtain⟨b,h4,h5⟩:=qrb horc hi h1 hk h';cases b with
  | true=>exact .inr ⟨(i,x)::es,0,v,h4,(λ_ e he=>Ag),rfl,by simp[Instr.findNow,h5],h5,by simp_all[qbI.mk]⟩
  | false =>
   rcases qAd horc hu hi hx hk (n+1) h3 h4 with⟨es',h6,_,h7,h8⟩|⟨es',j,e',h6,_,h7,h8,h9,h10⟩
   .exact .inl ⟨e::es',h6,(λhh e' he=>by cases he;exact hh _ rfl),by simp[Instr.findNow,h5,h7],by grind[qbI.mk]⟩
   .exact .inr ⟨e::es',j+1,e',h6,(λhh e' he=>by cases he;exact hh _ rfl),Ae,by simp[Instr.findNow,h5,h8];exact Ab,h9,by simp_all[qbI.mk]⟩
def qv4{kd:Option IntKind}{a b:Value}(ha:MapKept.IsKey (qdy kd) a)(h:Instr.sameNow (qdy kd) a b=some true):∀n,Instr.sameBits n b a=true:=by
 intro n;cases kd
 .cases a<;>try exact ha.elim
  cases b<;>simp[qdy,Instr.sameNow]at h;rename_i s s';cases n<;>simp[Instr.sameBits,(MapKept.bytes_beq _ _).1 h,MapKept.bytes_beq]
 .cases a<;>try exact ha.elim
  cases b<;>simp[qdy,Instr.sameNow]at h;obtain⟨h1,h2⟩:=h;cases n<;>simp[Instr.sameBits,h1,h2]
theorem qnf{t k e:TypeId}(h:qkm P t=some (k,e)):P.underlying t=some (.map k e):=by
 unfold qkm at h;exact Ag
theorem qpB{t:TypeId}{kd:Option IntKind}(h:qpA P t kd=true):P.underlying t=some (qdy kd):=by
 unfold qpA at h;split at h
 .assumption
 .obtain rfl:=of_decide_eq_true h;assumption
 exact Ag
def qlw{t:TypeId}{kd:Option IntKind}(h:qjf P t kd=true):∃k e,qkm P t=some (k,e)/\P.underlying t=some (.map k e)/\P.underlying k=some (qdy kd):=by
 unfold qjf at h;grind[qnf,qpB]
def qsc{t:TypeId}{z:AV}(h:qs3 P t z=true):∃i v,P.info? t=some i/\i.zero=some v/\VR σ Z z v:=by
 unfold qs3 at h;grind[qp8]
def VR.un_nilm{v:Value}(h:VR σ Z .nilm v):v = .map none:=by cases h;rfl
def qrk{h:Hp}{b:Nat}{k:List (AV×AV)->Prop}(hk:qk8 h b k):∃es,h.tr.get b=some (.map es)/\qrW es/\k es:=by
 obtain⟨x,h1,h2⟩:=(Tr.getK_iff _ _ _).1 hk;cases x with
 | cells=>exact Ae
 | dead=>exact Ae
 | map es=>exact⟨es,h1,qm5.1 h2⟩
section ops
variable {B:Nat->Prop}{h:Hp}{w:World}{a:Act}{t:Tr AV}{orc:Orc}{k:AV->Hp->Prop}{o:Oper}
def qyR(r:Rel σ Z B h w){ty:TypeId}{rs:Option Operand}(ho:o.op = .makeMap ty rs)(hc:rs=none\/∃q n,rs=some (.const (.int q n))/\(qkm P ty).isSome=true)(hk:opK orc .mkM t h k):Res P σ Z B h w (execOp a.eval o) k:=by
 have h1:k (.map h.sz) (h.push (.map [])):=(xJ h (.map []) (λb h'=>k (.map b) h')).1 hk
 obtain⟨r1,k1⟩:=r.newMap (w':=w.alloc (.map #[] 0)) (es0:=[]) (.inl ⟨(by intro e he;cases he),#[],0,rfl,qbI.nil⟩) rfl ⟨rfl,rfl⟩;refine⟨.map h.sz,.map (some w.heap.size),_,_,w.alloc (.map #[] 0),h1,.inl ?_,.map _ _ (Ren.add_self _ _ _) rfl,r1,k1⟩;rcases hc with rfl|⟨q,n,rfl,hm⟩
 .have e:(Instr.makeMap ty none).run P w = .ok (.map (some w.heap.size)) (w.alloc (.map #[] 0)):=rfl;simp[execOp,ho,e]
 .obtain⟨⟨k',e'⟩,hm⟩:=zzx.1 hm
  have e:(Instr.makeMap ty (some (.int q n))).run P w = .ok (.map (some w.heap.size)) (w.alloc (.map #[] 0)):=by
   simp[Instr.makeMap,qL (qnf hm),asInt];rfl
  simp[execOp,ho,Act.eval,e]
def qlL{ty key elem:TypeId}{kd:Option IntKind}(h4:P.underlying ty=some (.map key elem))(h5:P.underlying key=some (qdy kd)){x i:Value}{vs:Array MapEntry}(hx:(x = .map none/\vs = #[])\/(∃b clk,x = .map (some b)/\w.heap[b]?=some (.map vs clk)))
  (g5:MapKept.IsKey (qdy kd) i) {n:Nat}{u:Value}(hf:Instr.findNow (qdy kd) i vs.toList 0=some (some (n,u))) (ok:Bool):(Instr.lookup ty x i ok).run P w = .ok (if ok then .tuple #[u,.bool true]else u) w:=by
 rcases hx with⟨rfl,rfl⟩|⟨b,clk,rfl,e2⟩
 .simp[Instr.lookup,qL h4,MapKept.run_checkKey h5 g5,MapKept.run_findKey h5 hf]
 .simp[Instr.lookup,qL h4,MapKept.run_getObj_map e2,MapKept.run_checkKey h5 g5,MapKept.run_findKey h5 hf]
def qlK{ty key elem:TypeId}{kd:Option IntKind}(h4:P.underlying ty=some (.map key elem))(h5:P.underlying key=some (qdy kd)){x i:Value}{vs:Array MapEntry}(hx:(x = .map none/\vs = #[])\/(∃b clk,x = .map (some b)/\w.heap[b]?=some (.map vs clk)))
  (g5:MapKept.IsKey (qdy kd) i) (hf:Instr.findNow (qdy kd) i vs.toList 0=some none) {info:TypeInfo}{zv:Value}(h6:P.info? elem=some info) (h7:info.zero=some zv) (ok:Bool):(Instr.lookup ty x i ok).run P w = .ok (if ok then .tuple #[zv,.bool false]else zv) w:=by
 rcases hx with⟨rfl,rfl⟩|⟨b,clk,rfl,e2⟩
 .simp[Instr.lookup,qL h4,MapKept.run_checkKey h5 g5,MapKept.run_findKey h5 hf,qdF h6 h7]
 .simp[Instr.lookup,qL h4,MapKept.run_getObj_map e2,MapKept.run_checkKey h5 g5,MapKept.run_findKey h5 hf,qdF h6 h7]
def qyD(horc:OrcOk P σ orc)(r:Rel σ Z B h w)(ht:TR σ Z t a.tmps){kd:Option IntKind}{ok:Bool}{z:AV}{x i:O}{x' i':Operand}{ty:TypeId}(ho:o.op = .lookup ty x' i' ok)(hc1:qR x' x=true)(hc2:qR i' i=true)
  (h1:qjf P ty kd=true) (h2:(match qkm P ty with|some (_,e)=>qs3 P e z|none=>false)=true) (hk:opK orc (.lookM kd ok z x i) t h k):Res P σ Z B h w (execOp a.eval o) k:=by
 obtain⟨key,elem,h3,h4,h5⟩:=qlw h1;rw[h3]at h2;obtain⟨info,zv,h6,h7,h8⟩:=qsc (σ:=σ) (Z:=Z) h2;obtain⟨u,g1,g2⟩:=zx ht hc1 hk;obtain⟨iv,g3,g4⟩:=zx ht hc2 g1;obtain⟨g5,g6⟩:=qym horc g4 g3
 have fin:∀{vs:Array MapEntry}{m:Option AV},(a.eval x' = .map none/\vs = #[])\/(∃b clk,a.eval x' = .map (some b)/\w.heap[b]?=some (.map vs clk))->qiG ok z m (λv=>k v h)->
   ((m=none/\Instr.findNow (qdy kd) (a.eval i') vs.toList 0=some none)\/∃v n u,m=some v/\VR σ Z v u/\Instr.findNow (qdy kd) (a.eval i') vs.toList 0=some (some (n,u)))->Res P σ Z B h w (execOp a.eval o) k:=by
  intro vs m hx ha hf;rcases hf with⟨rfl,hf⟩|⟨v,n,u,rfl,hv,hf⟩
  .cases ok
   .refine Res.pure r (v:=z) ha (v':=zv) ?_ h8;simp[execOp,ho,qlK h4 h5 hx g5 hf h6 h7]
   .refine Res.pure r (v:=.tup [z,.b false]) ha (v':=.tuple #[zv,.bool false]) ?_ (.tup _ _ (.cons _ _ _ _ h8 (.cons _ _ _ _ (.b _) .nil)));simp[execOp,ho,qlK h4 h5 hx g5 hf h6 h7]
  .cases ok
   .refine Res.pure r (v:=v) ha (v':=u) ?_ hv;simp[execOp,ho,qlL h4 h5 hx g5 hf]
   .refine Res.pure r (v:=.tup [v,.b true]) ha (v':=.tuple #[u,.bool true]) ?_ (.tup _ _ (.cons _ _ _ _ hv (.cons _ _ _ _ (.b _) .nil)));simp[execOp,ho,qlL h4 h5 hx g5 hf]
 cases u<;>try exact g6.elim
 .exact fin (.inl ⟨g2.un_nilm,rfl⟩) g6 (.inl ⟨rfl,rfl⟩)
 .rename_i b;obtain⟨es,e1,e0,e2⟩:=qrk g6;obtain⟨L,e3,e4,e5⟩:=g2.un_map;obtain⟨e6,ob,e7,e9⟩:=r.maps b L es e3 e1;obtain⟨vs,clk,rfl,e8⟩:=e9.map e0;rcases qtc horc g4 g5 0 e8 e2 with⟨f1,f2⟩|⟨v,m,u,f1,f2,f3⟩
  .exact Ag
  .exact fin (.inr ⟨_,clk,e5,e7⟩) f1 (.inr ⟨v,m,u,rfl,f2,f3⟩)
def quc(horc:OrcOk P σ orc)(r:Rel σ Z B h w)(ht:TR σ Z t a.tmps){kd:Option IntKind}{x i v:O}{x' i' v':Operand}{ty:TypeId}(ho:o.op = .mapUpdate ty x' i' v'\/o.op = .insert ty x' i' v')(hc1:qR x' x=true)(hc2:qR i' i=true)(hc3:qR v' v=true)
  (h1:qjf P ty kd=true) (hk:opK orc (.updM kd x i v) t h k):Res P σ Z B h w (execOp a.eval o) k:=by
 obtain⟨key,elem,h3,h4,h5⟩:=qlw h1;obtain⟨u,g1,g2⟩:=zx ht hc1 hk;obtain⟨iv,g3,g4⟩:=zx ht hc2 g1;obtain⟨vv,g7,g8⟩:=zx ht hc3 g3;obtain⟨g5,g6⟩:=qym horc g4 g7;cases u<;>try exact g6.elim
 rename_i b;obtain⟨es,e1,e0,e2⟩:=qrk g6;obtain⟨L,e3,e4,e5⟩:=g2.un_map;obtain⟨e6,ob,e7,e9⟩:=r.maps b L es e3 e1;obtain⟨vs,clk,rfl,e8⟩:=e9.map e0
 have exec:∀{w':World},(Instr.mapUpdate ty (a.eval x') (a.eval i') (a.eval v')).run P w = .ok () w'->(execOp a.eval o).run P w = .ok .skip w':=by
  intro w' hr;rcases ho with ho|ho<;>simp[execOp,ho,hr]
 have hu:iv≠.undef/\∀r,iv≠.lp r:=⟨by rintro rfl;exact g7.elim,by rintro r rfl;exact g7.elim⟩
 rcases qAd horc hu g4 g8 g5 0 e8 e2 with⟨es',f1,f0,f2,f3⟩|⟨es',j,e,f1,f0,f2,f3,f4,f5⟩
 .obtain⟨f6,f7⟩:=(qaE _ _ _ _).1 f1;obtain⟨r1,k1⟩:=r.putMap (w':={ w with heap:=w.heap.setIfInBounds L.blk (.map (vs.push ⟨a.eval i',a.eval v',clk⟩) (clk+1)) }) e3 e1 f6 e7 (.inl ⟨f0 e0,_,_,rfl,by rw[Array.toList_push];exact Ae⟩) rfl ⟨rfl,rfl⟩
  refine⟨.undef,undef,_,_,_,f7,.inr ⟨exec ?_,rfl⟩,.undef _,r1,k1⟩;simp[Instr.mapUpdate,qL h4,e5,MapKept.run_getObj_map e7,MapKept.run_checkKey h5 g5,MapKept.run_findKey h5 f2,MapKept.run_setObj_map _ e7]
 .obtain⟨f6,f7⟩:=(qaE _ _ _ _).1 f1
  have hm:(vs.modify j λe=>{ e with key:=a.eval i',val:=a.eval v' }).toList=vs.toList.set j { e with key:=a.eval i',val:=a.eval v' }:=by
   have hj:vs[j]?=some e:=by simpa using f2
   have hlt:j<vs.size:=Ag
   apply List.ext_getElem?
   exact Ag
  obtain⟨r1,k1⟩:=r.putMap (w':={ w with heap:=w.heap.setIfInBounds L.blk (.map (vs.modify j λe=>{ e with key:=a.eval i',val:=a.eval v' }) clk) }) e3 e1 f6 e7 (.inl ⟨f0 e0,_,_,rfl,by rw[hm];exact f5⟩) rfl ⟨rfl,rfl⟩
  refine⟨.undef,undef,_,_,_,f7,.inr ⟨exec ?_,rfl⟩,.undef _,r1,k1⟩;have hj:vs[j]?=some e:=Ae
  have f3':Instr.findNow (qdy kd) (a.eval i') vs.toList 0=some (some (j,e.val)):=Ae
  simp[Instr.mapUpdate,qL h4,e5,MapKept.run_getObj_map e7,MapKept.run_checkKey h5 g5,MapKept.run_findKey h5 f3',hj,Instr.keyThatStays,qv4 g5 f4,MapKept.run_setObj_map _ e7]
def qGk(r:Rel σ Z B h w)(ht:TR σ Z t a.tmps){x y:O}{x' y':Operand}{args:Array TypeId}{ops:Array Operand}(ho:o.op = .call ⟨.builtin .min,ops,args⟩)(hops:ops.toList=[x',y'])(hc:qR x' x=true)(hc2:qR y' y=true)(hk:opK orc (.min x y) t h k):Res P σ Z B h w (execOp a.eval o) k:=by
 obtain⟨u,h1,h2⟩:=zx ht hc hk;obtain⟨v,h3,h4⟩:=zx ht hc2 h1;obtain rfl:ops = #[x',y']:=Ag
 obtain⟨q,n,h5,h6⟩:=qp6 h2 h3;obtain⟨q',m,h7,h8⟩:=qp6 h4 h6
 have hrun:(execOp a.eval o).run P w = .ok (.value (.int q (if m<n then m else n))) w:=by
  simp[execOp,ho,resolve,invoke,builtin,Builtin.min_,Builtin.min2,h5,h7]
 rw[qdQ]at h8
 by_cases hlt:m<n
 .exact Fs
 .exact Fp
end ops
section ops
variable {B:Nat->Prop}{h:Hp}{w:World}{a:Act}{t:Tr AV}{orc:Orc}{k:AV->Hp->Prop}{o:Oper}
def qbm{b:Nat}:∀{ps:List Nat}{p:Prop},jN t b ps p->p/\∀q ∈ ps,(∃b' o',t.get q=some (.ptr b' o')/\b'≠b)\/∃cs o',t.get q=some (.pf cs o')
 | [],p,h=>⟨h,(by intro q hq;cases hq)⟩
 | q::ps,p,h=>by
  have h':t.getK q (λy=>match y with | .ptr b' _=>qv (not (Nat.beq b' b)) (jN t b ps p) | .pf _ _=>jN t b ps p|_=>False):=h
  obtain⟨y,h1,h2⟩:=(Tr.getK_iff _ _ _).1 h';cases y<;>try exact h2.elim
  .rename_i b' o';obtain⟨h3,h4⟩:=(qf _ _).1 h2;obtain⟨h5,h6⟩:=qbm h4;refine⟨h5,λq' hq=>?_⟩
   rcases zzc.1 hq with rfl|hq
   .refine .inl ⟨b',o',h1,?_⟩;rintro rfl;simp at h3
   .exact h6 q' hq
  .obtain⟨h5,h6⟩:=qbm h2;refine⟨h5,λq' hq=>?_⟩
   rcases zzc.1 hq with rfl|hq
   .exact .inr ⟨_,_,h1⟩
   .exact h6 q' hq
def qrF{ps:List Nat}{s:AV}{p:Prop}(h:qbF t ps s p):p:=by
 cases s<;>first|exact h|exact h.elim|exact(qbm h).1
def qqg{esz bytes:Nat}{s x:O}{ps:List Nat}(hk:opK orc (.appD esz bytes s x ps) t h k):opK orc (.app esz bytes true s x) t h k:=by
 obtain⟨v,h1,h2⟩:=qH t s _ hk;obtain⟨u,h3,h4⟩:=qH t x _ h1;exact h2 (λs=>evK t x (λx=>qiH h esz bytes true s x k)) (h4 (λx=>qiH h esz bytes true v x k) (qrF h3))
def qr6(horc:OrcOk P σ orc)(r:Rel σ Z B h w)(ht:TR σ Z t a.tmps){b:Builtin}{args:Array Operand}{argTypes:Array TypeId}{io:IOp}(ho:o.op = .call ⟨.builtin b,args,argTypes⟩)(hc:qep P b argTypes args.toList io=true)(hk:opK orc io t h k):Res P σ Z B h w (execOp a.eval o) k:=by
 unfold qep at hc;split at hc
 .rename_i y n hops;cases ha:argTypes[0]? with
  | none=>simp[ha]at hc
  | some ty =>
   simp only[ha,Option.bind_some]at hc;split at hc
   .rename_i m e he;exact qvl r ho hops ha he (by simpa using hc) hk
   .cases hc
 .rename_i x str y hops;simp only[zzB]at hc;cases ha:argTypes[0]? with
  | none=>simp[ha]at hc
  | some ty =>
   simp only[ha]at hc;exact qF5 horc r ht ho hops ha hc.2 hc.1 hk
 .rename_i s x esz bytes consume s' x' hops;simp only[zzB]at hc;cases h0:argTypes[0]? with
  | none=>simp[h0]at hc
  | some ts =>
   cases h1:argTypes[1]? with
   | none=>simp[h0,h1]at hc
   | some tx =>
    simp only[h0,h1]at hc;obtain⟨⟨hc1,hc2⟩,hc3⟩:=hc;cases he:wu P ts with
    | none=>simp[he]at hc3
    | some e =>
     simp only[he,zzB]at hc3;obtain⟨⟨⟨hs,hb⟩,hz⟩,hx⟩:=hc3;split at hz<;>try (cases hz;done)
     rename_i i hi;split at hz<;>try (cases hz;done)
     rename_i z hzz
     have hx':P.underlying tx=some .string\/∃e,P.underlying tx=some (.slice e):=Ct
     exact qwy horc.atoms r ht ho hops h0 h1 he hx' hs hb hi hzz (by simpa using hz) hc1 hc2 hk
 .rename_i s x esz bytes s' x' ps hops;simp only[zzB]at hc;cases h0:argTypes[0]? with
  | none=>simp[h0]at hc
  | some ts =>
   cases h1:argTypes[1]? with
   | none=>simp[h0,h1]at hc
   | some tx =>
    simp only[h0,h1]at hc;obtain⟨⟨hc1,hc2⟩,hc3⟩:=hc;cases he:wu P ts with
    | none=>simp[he]at hc3
    | some e =>
     simp only[he,zzB]at hc3;obtain⟨⟨⟨hs,hb⟩,hz⟩,hx⟩:=hc3;split at hz<;>try (cases hz;done)
     rename_i i hi;split at hz<;>try (cases hz;done)
     rename_i z hzz
     have hx':P.underlying tx=some .string\/∃e,P.underlying tx=some (.slice e):=Ct
     exact qwy horc.atoms r ht ho hops h0 h1 he hx' hs hb hi hzz (by simpa using hz) hc1 hc2 (orc:=orc) (consume:=true) (qqg hk)
 .rename_i x y x' y' hops;simp only[zzB]at hc;exact qGf r ht ho hops hc.1 hc.2 hk
 .rename_i x y x' y' hops;simp only[zzB]at hc;exact qGk r ht ho hops hc.1 hc.2 hk
 .rename_i x z y hops;simp only[zzB]at hc;cases h0:argTypes[0]? with
  | none=>simp[h0]at hc
  | some td =>
   simp only[h0,Option.bind_some]at hc;obtain⟨hc1,hc3⟩:=hc;split at hc3<;>try (cases hc3;done)
   rename_i e he;exact qxh horc.atoms r ht ho hops h0 he hc3 hc1 hk
 .cases hc
def qkH{n:Nat}{x v:O}{ps:List Nat}(hk:opK orc (.storeD n x v ps) t h k):opK orc (.store n x v) t h k:=by
 obtain⟨p,h1,h2⟩:=qH t x _ hk;cases p<;>try exact h1.elim
 exact h2 _ (qbm h1).1
def qKy(horc:OrcOk P σ orc)(r:Rel σ Z B h w)(ht:TR σ Z t a.tmps){io:IOp}(hc:qjN P o.op io=true)(hk:opK orc io t h k):Res P σ Z B h w (execOp a.eval o) k:=by
 generalize ho:o.op=oo at hc;unfold qjN at hc;split at hc
 .exact qyS r ht (.inl ho) hc hk
 .exact qyS r ht (.inr ho) hc hk
 .simp only[zzB]at hc;exact qCz r ht ho hc.1.1 hc.1.2 hc.2 hk
 .exact qwq r ho hc hk
 .exact qET horc.atoms r ht ho hc hk
 .simp only[zzB]at hc;exact qwR horc.atoms r ht ho hc.1 hc.2 hk
 .simp only[zzB]at hc;obtain⟨hn,hc⟩:=hc;split at hc<;>try (cases hc;done)
  rename_i e he;simp only[zzB]at hc;obtain⟨⟨h1,h2⟩,h3⟩:=hc;split at h3<;>try (cases h3;done)
  rename_i j hj;obtain rfl:=eq_of_beq hn;exact quw horc.atoms r ht ho he h1 Gi hj h3 hk
 .simp only[zzB,Bool.not_eq_true']at hc;exact qyA r ht ho hc.1.1 hc.1.2 hc.2 hk
 .simp only[zzB]at hc;exact qyC r ht ho hc.1.1 hc.1.2 hc.2 hk
 .simp only[zzB]at hc;exact qrL horc.atoms r ht ho hc.1.1 hc.1.2 hc.2 hk
 .simp only[zzB]at hc;exact qrL horc.atoms r ht ho hc.1.1 hc.1.2 hc.2 (qkH hk)
 .exact qvD r ht ho hc hk
 .simp only[zzB,zzb]at hc;obtain⟨⟨⟨rfl,h1⟩,h2⟩,_⟩:=hc;exact qEQ horc r ht ho h1 h2 hk
 .simp only[zzB,Bool.not_eq_true']at hc;exact qxw r ht (.inl ⟨rfl,hc.1.1.1⟩) ho hc.1.1.2 hc.1.2 hc.2 hk
 .simp only[zzB]at hc;exact qxw r ht (.inr ⟨rfl,hc.1.1.1⟩) ho hc.1.1.2 hc.1.2 hc.2 hk
 .simp only[zzB,zzO,Bool.not_eq_true']at hc;exact qxx r ht (.inl ⟨rfl,hc.1.1⟩) ho hc.1.2 hc.2 hk
 .simp only[zzB,zzO]at hc;exact qxx r ht (.inr ⟨rfl,hc.1.1⟩) ho hc.1.2 hc.2 hk
 .simp only[zzB,zzb]at hc;obtain⟨rfl,h1⟩:=hc;exact qKW r ht ho h1 hk
 .simp only[zzB]at hc;exact qxo horc r ht ho hc.1.1 hc.1.2 hc.2 hk
 .simp only[zzB]at hc;obtain⟨h1,h2⟩:=hc;split at h2<;>try (cases h2;done)
  rename_i fs hfs;split at h2<;>try (cases h2;done)
  rename_i fd hfd;simp only[zzB,Bool.not_eq_true']at h2;exact qxE r ht ho h1 hfs hfd (eq_of_beq h2.1.1) h2.1.2 h2.2 hk
 .simp only[zzB]at hc;exact qFH r ht ho hc.1 hc.2 hk
 .simp only[zzB]at hc;obtain⟨⟨h1,h2⟩,h3⟩:=hc;split at h3<;>try (cases h3;done)
  rename_i n e he;simp only[zzB]at h3;obtain rfl:=eq_of_beq h3.1;exact qva r ht ho h1 h2 he h3.2 hk
 .simp only[zzB]at hc;obtain⟨⟨h1,h2⟩,h3⟩:=hc;split at h3<;>try (cases h3;done)
  rename_i e he;exact qvb r ht ho h1 h2 he h3 hk
 .simp only[zzB]at hc;obtain⟨⟨h1,h2⟩,h3⟩:=hc;split at h3<;>try (cases h3;done)
  rename_i n e he;simp only[zzB]at h3;obtain⟨⟨⟨h4,h5⟩,h6⟩,h7⟩:=h3;obtain rfl:=eq_of_beq h4;exact qBK r ht ho h1 h2 he h5 (eq_of_beq h6) h7 hk
 .simp only[zzB]at hc;exact qBL r ht ho hc.1.1 hc.1.2 hc.2 hk
 .simp only[zzB]at hc;obtain⟨⟨⟨⟨h1,h2⟩,h3⟩,h4⟩,h5⟩:=hc;split at h5<;>try (cases h5;done)
  rename_i e he;exact qC9 r ht ho h1 h2 h3 h4 he h5 hk
 .simp only[zzB]at hc;exact qv5 r ht ho hc.1.1.1 hc.1.1.2 hc.1.2 hc.2 hk
 .simp only[zzB]at hc;obtain⟨⟨⟨⟨h1,h2⟩,h3⟩,h4⟩,h5⟩:=hc;split at h5<;>try (cases h5;done)
  rename_i n e he;simp only[zzB]at h5;obtain rfl:=eq_of_beq h5.1;exact qC8 r ht ho h1 h2 h3 h4 he h5.2 hk
 .simp only[zzB]at hc;obtain⟨h1,h2⟩:=hc;obtain rfl:=eq_of_beq h2;exact qFy r ht ho h1 hk
 .simp only[zzB]at hc;obtain⟨⟨h1,h2⟩,h3⟩:=hc;obtain rfl:=eq_of_beq h1;exact qGl r ht ho h2 h3 hk
 .simp only[zzB]at hc;obtain⟨⟨h1,h2⟩,h3⟩:=hc;split at h3<;>try (cases h3;done)
  rename_i e he;simp only[zzB]at h3;exact qGm r ht ho h1 h2 he h3.1.2 h3.2 hk
 .exact qyR r ho (.inl rfl) hk
 .exact qyR r ho (.inr ⟨_,_,rfl,hc⟩) hk
 .simp only[zzB,beq_iff_eq]at hc;obtain⟨⟨⟨⟨h1,h2⟩,rfl⟩,h3⟩,h4⟩:=hc;exact qyD horc r ht ho h1 h2 h3 h4 hk
 .simp only[zzB]at hc;exact quc horc r ht (.inl ho) hc.1.1.1 hc.1.1.2 hc.1.2 hc.2 hk
 .simp only[zzB]at hc;exact quc horc r ht (.inr ho) hc.1.1.1 hc.1.1.2 hc.1.2 hc.2 hk
 .exact hk.elim
 .exact qr6 horc r ht ho hc hk
 .cases hc
end ops
end
end
end Go.Kc
