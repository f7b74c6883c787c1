/- For every input the law StackChecked answers true, and its arguments read as before. No condition. -/
import Derived.Test.YtgaodkfneooonaaGreatStkC
import Derived.Test.YtgaodkfneooonaaGreatArgsJ
import Derived.Test.YtgaodkfneooonaaGreatRows
import Derived.WalkKit
import Derived.ProofKit
import Derived.OpenShut
import Derived.ChangeMaps5
namespace Go.Proofs.YtgaodkfneooonaaGreat.stackChecked
open Go.Kc Go.ChangeShapes Go.WideShapes Go.ChangeAt Go.RowKit Go.ChangeMaps

theorem types:∀t ∈ (#[63,4]:Array TypeId).toList,t<Tryz.prog.types.size:=by
 have h:((#[63,4]:Array TypeId).toList.all fun t=>decide (t<Tryz.prog.types.size))=true:=by kernel_rfl
 exact fun t ht=>of_decide_eq_true (List.all_eq_true.1 h t ht)
theorem own:ownKnob Tryz.prog.godebug=none:=by kernel_rfl
set_option maxRecDepth 100000 in
theorem lifted(os:Os)(started:os.Started)(H:Type)(enc:TypeId×Value->H) :
  ReturnsInHanded {} Tryz.checked os 10 .any (Rows.stackCheckedSpec.pre6 enc Tryz.prog Tryz.f10 Rows.stackCheckedRow.domain false) (Rows.stackCheckedSpec.post enc Tryz.prog Tryz.f10 false true false false):=by
 refine returnsInHanded_of_change (C:=Tryz.checked) own started (by kernel_rfl) Tryz.func10
  (ChangeSpec.witness6 (enc:=enc) (C:=Tryz.checked) false ⟨#[],#[.agg #[.slice none 0 0,.int .u8 0,.slice none 0 0,.int .u32 0,.int .u8 0,.slice none 0 0,.slice none 0 0,.int .u8 0,.int .u64 0,.bool false,.bool false,.bool false,.bool false],.bool false],[]⟩ 8 (by kernel_rfl) (by kernel_rfl) (by kernel_rfl) (by kernel_rfl)) ?_
 intro W base args ds gs before hval0 hW hcnd _;have hval:∀(j:Nat) t v,Tryz.f10.params[j]?=some t->args[j]?=some v->Value.okWide Tryz.prog W .any base t v:=hval0;have hW':=hW;obtain⟨p,q,hA0,hV,rfl,hfz,hnd⟩:=hW;have hA:DataW.TrodAll enc Tryz.prog W 0 (fun _=>true) true Tryz.f10.params.toList args.toList ds p:=hA0
 rw[Tryz.params10] at hA hval;obtain⟨v0,vs0,d0,ds0,p0,q0,hargs0,rfl,rfl,h0,r0⟩:=trodAll_cons hA;obtain⟨v1,vs1,d1,ds1,p1,q1,hargs1,rfl,rfl,h1,r1⟩:=trodAll_cons r0;obtain⟨rfl,rfl,rfl⟩:=trodAll_nil r1;obtain rfl:args = #[v0,v1]:=by cases args;simp_all
 obtain⟨rfl,rfl⟩:=trodVars_none hV;have k0:=hval 0 63 v0 rfl rfl;unfold Value.okWide at k0;rw[Tryz.underlying63] at k0;obtain⟨c0,hc0,_⟩:=k0;obtain⟨a0,i0,rel0⟩:=(Args.oPol (enc:=enc) (w:=W)).agg ⟨c0,hc0⟩ h0;obtain⟨b1,rfl,rfl,rfl⟩:=open_bool Tryz.underlying4 (hval 1 4 v1 rfl rfl) h1;clear hA0 hval0;simp only[List.append_nil] at hW';refine ((Walk.stackChecked a0 b1 i0).law ⟨_,Tryz.func10,by first|kernel_rfl|decide,rfl⟩ W (.cons _ _ _ _ rel0 (.cons _ _ _ _ (.b _) .nil))).mono fun e W' ⟨he,hg⟩=>?_
 subst he;exact⟨_,rfl,qAa (T:=(· < Tryz.prog.types.size)) (pv:=[]) hW' rfl Args.kids Args.full (by rw[Tryz.params10];exact types) (fun _ _ _=>(trodAll_cons_mk (shut_bool Tryz.underlying4 _) trodAll_mk0)) (fun _=>rfl) hg⟩

theorem j0:(Rows.stackCheckedRow.wf (OpenSpec.ofChange Rows.stackCheckedSpec)&&laidOutB Tryz.prog&&mapsRowed Tryz.prog)=true:=by kernel_rfl
theorem j2:(Rows.stackCheckedRow.inPlace==Tryz.prog.inPlace 10)=true:=by kernel_rfl
theorem j3:(Rows.stackCheckedRow.unfollowed==Tryz.prog.unfollowed 10)=true:=by kernel_rfl
theorem j4:(Rows.stackCheckedRow.recurses==Tryz.prog.recurses 10)=true:=by kernel_rfl
theorem j5:(Rows.stackCheckedRow.named==Tryz.prog.varsNamed 10)=true:=by kernel_rfl
theorem j6:(Rows.stackCheckedRow.plainKeys==Tryz.prog.plainKeys)=true:=by kernel_rfl
theorem j7:Tryz.prog.mayEnter=true:=by kernel_rfl
theorem j8:(Rows.stackCheckedRow.lifted==Tryz.prog.liftsFinal)=true:=by kernel_rfl
theorem j9:Tryz.prog.stopsHeard=true:=by kernel_rfl
theorem closed:joinedFacts Tryz.prog 10 Tryz.f10 Rows.stackCheckedSpec Rows.stackCheckedRow=true:=by
 unfold joinedFacts;simp only[j0,j2,j3,j4,j5,j6,j7,j8,j9,Bool.and_true,Bool.true_and];kernel_rfl
theorem over:Rows.stackCheckedRow.holds Tryz.pinned (OpenSpec.ofChange Rows.stackCheckedSpec) :=
 OpenClaim.holds_of_wide 10 Tryz.f10 rfl rfl rfl rfl rfl rfl rfl ⟨rfl,rfl,rfl,rfl,rfl⟩ rfl rfl rfl rfl rfl (by kernel_rfl) Tryz.func10 closed
  (of_decide_eq_true (by kernel_rfl)) (by unfold Func.isWrapper;first|(rw[if_pos (by decide +kernel)];kernel_rfl)|(rw[if_neg (by decide +kernel)];exact⟨rfl,rfl⟩))
  (fun os started H enc _=>lifted os started H enc)

theorem proved:Rows.StackCheckedSaid :=
 over
#print axioms proved
end Go.Proofs.YtgaodkfneooonaaGreat.stackChecked
