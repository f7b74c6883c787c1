/- For every input the law StackMeans answers true, and its arguments read as before. No condition. -/
import Derived.Test.YtgaodkfneooonaaGreatStkM
import Derived.Test.YtgaodkfneooonaaGreatArgsK
import Derived.Test.YtgaodkfneooonaaGreatRows
import Derived.WalkKit
import Derived.ProofKit
import Derived.OpenShut
import Derived.ChangeMaps5
namespace Go.Proofs.YtgaodkfneooonaaGreat.stackMeans
open Go.Kc Go.ChangeShapes Go.WideShapes Go.ChangeAt Go.RowKit Go.ChangeMaps

theorem types:∀t ∈ (#[63,4,29]:Array TypeId).toList,t<Tryz.prog.types.size:=by
 have h:((#[63,4,29]:Array TypeId).toList.all fun t=>decide (t<Tryz.prog.types.size))=true:=by kernel_rfl
 exact fun t ht=>of_decide_eq_true (List.all_eq_true.1 h t ht)
theorem own:ownKnob Tryz.prog.godebug=none:=by kernel_rfl
set_option maxRecDepth 100000 in
theorem lifted(os:Os)(started:os.Started)(H:Type)(enc:TypeId×Value->H) :
  ReturnsInHanded {} Tryz.checked os 7 .any (Rows.stackMeansSpec.pre6 enc Tryz.prog Tryz.f7 Rows.stackMeansRow.domain false) (Rows.stackMeansSpec.post enc Tryz.prog Tryz.f7 false true false false):=by
 refine returnsInHanded_of_change (C:=Tryz.checked) own started (by kernel_rfl) Tryz.func7
  (ChangeSpec.witness6 (enc:=enc) (C:=Tryz.checked) false ⟨#[],#[.agg #[.slice none 0 0,.int .u8 0,.slice none 0 0,.int .u32 0,.int .u8 0,.slice none 0 0,.slice none 0 0,.int .u8 0,.int .u64 0,.bool false,.bool false,.bool false,.bool false],.bool false,.agg #[.int .u32 0,.int .u32 0,.int .u64 0,.int .u64 0,.int .u64 0,.int .u64 0,.int .u64 0,.int .u64 0,.int .u64 0]],[]⟩ 8 (by kernel_rfl) (by kernel_rfl) (by kernel_rfl) (by kernel_rfl)) ?_
 intro W base args ds gs before hval0 hW hcnd _;have hval:∀(j:Nat) t v,Tryz.f7.params[j]?=some t->args[j]?=some v->Value.okWide Tryz.prog W .any base t v:=hval0;have hW':=hW;obtain⟨p,q,hA0,hV,rfl,hfz,hnd⟩:=hW;have hA:DataW.TrodAll enc Tryz.prog W 0 (fun _=>true) true Tryz.f7.params.toList args.toList ds p:=hA0
 rw[Tryz.params7] at hA hval;obtain⟨v0,vs0,d0,ds0,p0,q0,hargs0,rfl,rfl,h0,r0⟩:=trodAll_cons hA;obtain⟨v1,vs1,d1,ds1,p1,q1,hargs1,rfl,rfl,h1,r1⟩:=trodAll_cons r0;obtain⟨v2,vs2,d2,ds2,p2,q2,hargs2,rfl,rfl,h2,r2⟩:=trodAll_cons r1;obtain⟨rfl,rfl,rfl⟩:=trodAll_nil r2;obtain rfl:args = #[v0,v1,v2]:=by cases args;simp_all
 obtain⟨rfl,rfl⟩:=trodVars_none hV;have k0:=hval 0 63 v0 rfl rfl;unfold Value.okWide at k0;rw[Tryz.underlying63] at k0;obtain⟨c0,hc0,_⟩:=k0;obtain⟨a0,i0,rel0⟩:=(Args.oPol (enc:=enc) (w:=W)).agg ⟨c0,hc0⟩ h0;obtain⟨b1,rfl,rfl,rfl⟩:=open_bool Tryz.underlying4 (hval 1 4 v1 rfl rfl) h1;have k2:=hval 2 29 v2 rfl rfl;unfold Value.okWide at k2;rw[Tryz.underlying29] at k2;obtain⟨c2,hc2,_⟩:=k2;obtain⟨a2,i2,rel2⟩:=(Args.oData (enc:=enc) (w:=W)).agg ⟨c2,hc2⟩ h2;clear hA0 hval0;simp only[List.append_nil] at hW';refine ((Walk.stackMeans a0 b1 a2 i0 i2).law ⟨_,Tryz.func7,by first|kernel_rfl|decide,rfl⟩ W (.cons _ _ _ _ rel0 (.cons _ _ _ _ (.b _) (.cons _ _ _ _ rel2 .nil)))).mono fun e W' ⟨he,hg⟩=>?_
 subst he;exact⟨_,rfl,qCA (T:=(· < Tryz.prog.types.size)) (pv:=[]) hW' rfl Args.kids Args.full (by rw[Tryz.params7];exact types) (fun _ _ _=>(trodAll_cons_mk (shut_bool Tryz.underlying4 _) trodAll_mk0)) (fun _=>rfl) hg⟩

theorem j0:(Rows.stackMeansRow.wf (OpenSpec.ofChange Rows.stackMeansSpec)&&laidOutB Tryz.prog&&mapsRowed Tryz.prog)=true:=by kernel_rfl
theorem j2:(Rows.stackMeansRow.inPlace==Tryz.prog.inPlace 7)=true:=by kernel_rfl
theorem j3:(Rows.stackMeansRow.unfollowed==Tryz.prog.unfollowed 7)=true:=by kernel_rfl
theorem j4:(Rows.stackMeansRow.recurses==Tryz.prog.recurses 7)=true:=by kernel_rfl
theorem j5:(Rows.stackMeansRow.named==Tryz.prog.varsNamed 7)=true:=by kernel_rfl
theorem j6:(Rows.stackMeansRow.plainKeys==Tryz.prog.plainKeys)=true:=by kernel_rfl
theorem j7:Tryz.prog.mayEnter=true:=by kernel_rfl
theorem j8:(Rows.stackMeansRow.lifted==Tryz.prog.liftsFinal)=true:=by kernel_rfl
theorem j9:Tryz.prog.stopsHeard=true:=by kernel_rfl
theorem closed:joinedFacts Tryz.prog 7 Tryz.f7 Rows.stackMeansSpec Rows.stackMeansRow=true:=by
 unfold joinedFacts;simp only[j0,j2,j3,j4,j5,j6,j7,j8,j9,Bool.and_true,Bool.true_and];kernel_rfl
theorem over:Rows.stackMeansRow.holds Tryz.pinned (OpenSpec.ofChange Rows.stackMeansSpec) :=
 OpenClaim.holds_of_wide 7 Tryz.f7 rfl rfl rfl rfl rfl rfl rfl ⟨rfl,rfl,rfl,rfl,rfl⟩ rfl rfl rfl rfl rfl (by kernel_rfl) Tryz.func7 closed
  (of_decide_eq_true (by kernel_rfl)) (by unfold Func.isWrapper;first|(rw[if_pos (by decide +kernel)];kernel_rfl)|(rw[if_neg (by decide +kernel)];exact⟨rfl,rfl⟩))
  (fun os started H enc _=>lifted os started H enc)

theorem proved:Rows.StackMeansSaid :=
 over
#print axioms proved
end Go.Proofs.YtgaodkfneooonaaGreat.stackMeans
