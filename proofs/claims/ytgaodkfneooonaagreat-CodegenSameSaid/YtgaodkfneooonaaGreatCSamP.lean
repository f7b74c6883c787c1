/- For every input the law CodegenSame answers true, and its arguments read as before. No condition. -/
import Derived.Test.YtgaodkfneooonaaGreatSameA
import Derived.Test.YtgaodkfneooonaaGreatArgsD
import Derived.Test.YtgaodkfneooonaaGreatRows
import Derived.WalkKit
import Derived.ProofKit
import Derived.OpenShut
import Derived.ChangeMaps5
import Derived.SizedLaws
namespace Go.Proofs.YtgaodkfneooonaaGreat.codegenSame
open Go.Kc Go.ChangeShapes Go.WideShapes Go.ChangeAt Go.RowKit Go.ChangeMaps

theorem types:∀t ∈ (#[25,51,29,3]:Array TypeId).toList,t<Tryz.prog.types.size:=by
 have h:((#[25,51,29,3]:Array TypeId).toList.all fun t=>decide (t<Tryz.prog.types.size))=true:=by kernel_rfl
 exact fun t ht=>of_decide_eq_true (List.all_eq_true.1 h t ht)
theorem one{H:Type}{enc:TypeId×Value->H}{w:World} [TabOk w]{α:Type}{P:Program}{t:TypeId}{I:α->Prop}{g:α->AV}(h:qdd enc P w t I (fun a=>[g a])){v:Value}(hv:v.cells = #[v]){d:DataW H}{p:List MemPlace}(hd:DataW.Trod enc P w 0 (fun _=>true) true t v d p):∃a,I a∧VR σ0 (ice w) (g a) v:=by
 obtain⟨fuel,hd⟩:=hd;rw[hv] at hd;obtain⟨a,h1,h2⟩:=h _ _ _ hd;cases h2 with
 | cons _ _ _ _ h2 _=>exact⟨a,h1,h2.vr⟩
theorem own:ownKnob Tryz.prog.godebug=none:=by kernel_rfl
set_option maxRecDepth 100000 in
theorem lifted(os:Os)(started:os.Started)(H:Type)(enc:TypeId×Value->H) :
  ReturnsInHanded {} Tryz.checked os 5 .any (Rows.codegenSameSpec.pre6 enc Tryz.prog Tryz.f5 Rows.codegenSameRow.domain false) (Rows.codegenSameSpec.post enc Tryz.prog Tryz.f5 false true false false):=by
 refine returnsInHanded_of_change_sized (C:=Tryz.checked) own started (by kernel_rfl) Tryz.func5
  (ChangeSpec.witness6 (enc:=enc) (C:=Tryz.checked) false ⟨#[],#[.agg #[.int .i64 0,.slice none 0 0,.int .u32 0],.slice none 0 0,.agg #[.int .u32 0,.int .u32 0,.int .u64 0,.int .u64 0,.int .u64 0,.int .u64 0,.int .u64 0,.int .u64 0,.int .u64 0],.int .i64 0],[]⟩ 8 (by kernel_rfl) (by kernel_rfl) (by kernel_rfl) (by kernel_rfl)) ?_
 intro W base args ds gs before hval0 hW hcnd hz0 _;have hval:∀(j:Nat) t v,Tryz.f5.params[j]?=some t->args[j]?=some v->Value.okWide Tryz.prog W .any base t v:=hval0;have hW':=hW;obtain⟨p,q,hA0,hV,rfl,hfz,hnd⟩:=hW;have hA:DataW.TrodAll enc Tryz.prog W 0 (fun _=>true) true Tryz.f5.params.toList args.toList ds p:=hA0
 rw[Tryz.params5] at hA hval hz0;obtain⟨v0,vs0,d0,ds0,p0,q0,hargs0,rfl,rfl,h0,r0⟩:=trodAll_cons hA;obtain⟨v1,vs1,d1,ds1,p1,q1,hargs1,rfl,rfl,h1,r1⟩:=trodAll_cons r0;obtain⟨v2,vs2,d2,ds2,p2,q2,hargs2,rfl,rfl,h2,r2⟩:=trodAll_cons r1;obtain⟨v3,vs3,d3,ds3,p3,q3,hargs3,rfl,rfl,h3,r3⟩:=trodAll_cons r2;obtain⟨rfl,rfl,rfl⟩:=trodAll_nil r3;obtain rfl:args = #[v0,v1,v2,v3]:=by cases args;simp_all
 obtain⟨rfl,rfl⟩:=trodVars_none hV;have k0:=hval 0 25 v0 rfl rfl;unfold Value.okWide at k0;rw[Tryz.underlying25] at k0;obtain⟨c0,hc0,_⟩:=k0
 have hw0:∀n ∈ d0.weights Tryz.prog 25,n<=reachBytes:=fun n hn=>by
  have:=List.all_eq_true.1 hz0 n (qe2 (i:=0) (t:=25) (d:=d0) rfl rfl hn);simpa using this
 obtain⟨a0,i0,rel0⟩:=(Args.oFil (enc:=enc) (w:=W)).agg ⟨c0,hc0⟩ h0 hw0;have k1:=hval 1 51 v1 rfl rfl;unfold Value.okWide at k1;rw[Tryz.underlying51] at k1;obtain⟨a1,_,rel1⟩:=one (Args.oInts (enc:=enc) (w:=W)) (by cases v1<;>first|rfl|(simp[Cell.okWide,Cell.ok,Tryz.underlying51] at k1)) h1
 have k2:=hval 2 29 v2 rfl rfl;unfold Value.okWide at k2;rw[Tryz.underlying29] at k2;obtain⟨c2,hc2,_⟩:=k2;obtain⟨a2,i2,rel2⟩:=(Args.oData (enc:=enc) (w:=W)).agg ⟨c2,hc2⟩ h2;obtain⟨a3,rfl,rfl,rfl,w3⟩:=open_int Tryz.underlying3 (hval 3 3 v3 rfl rfl) h3;clear hA0 hval0;simp only[List.append_nil] at hW';refine ((Walk.codegenSame a0 a1 a2 a3 w3 i0 i2).law ⟨_,Tryz.func5,by first|kernel_rfl|decide,rfl⟩ W (.cons _ _ _ _ rel0 (.cons _ _ _ _ rel1 (.cons _ _ _ _ rel2 (.cons _ _ _ _ (.i _ _) .nil))))).mono fun e W' ⟨he,hg⟩=>?_
 subst he;exact⟨_,rfl,qwG (T:=(· < Tryz.prog.types.size)) (pv:=[]) hW' rfl Args.kids Args.full (by rw[Tryz.params5];exact types) (fun _ _ _=>(trodAll_cons_mk (shut_bool Tryz.underlying4 _) trodAll_mk0)) (fun _=>rfl) hg⟩

theorem j0:(Rows.codegenSameRow.wf (OpenSpec.ofChange Rows.codegenSameSpec)&&laidOutB Tryz.prog&&mapsRowed Tryz.prog)=true:=by kernel_rfl
theorem j2:(Rows.codegenSameRow.inPlace==Tryz.prog.inPlace 5)=true:=by kernel_rfl
theorem j3:(Rows.codegenSameRow.unfollowed==Tryz.prog.unfollowed 5)=true:=by kernel_rfl
theorem j4:(Rows.codegenSameRow.recurses==Tryz.prog.recurses 5)=true:=by kernel_rfl
theorem j5:(Rows.codegenSameRow.named==Tryz.prog.varsNamed 5)=true:=by kernel_rfl
theorem j6:(Rows.codegenSameRow.plainKeys==Tryz.prog.plainKeys)=true:=by kernel_rfl
theorem j7:Tryz.prog.mayEnter=true:=by kernel_rfl
theorem j8:(Rows.codegenSameRow.lifted==Tryz.prog.liftsFinal)=true:=by kernel_rfl
theorem j9:Tryz.prog.stopsHeard=true:=by kernel_rfl
theorem closed:joinedFacts Tryz.prog 5 Tryz.f5 Rows.codegenSameSpec Rows.codegenSameRow=true:=by
 unfold joinedFacts;simp only[j0,j2,j3,j4,j5,j6,j7,j8,j9,Bool.and_true,Bool.true_and];kernel_rfl
theorem over:Rows.codegenSameRow.holds Tryz.pinned (OpenSpec.ofChange Rows.codegenSameSpec) :=
 OpenClaim.holds_of_wide 5 Tryz.f5 rfl rfl rfl rfl rfl rfl rfl ⟨rfl,rfl,rfl,rfl,rfl⟩ rfl rfl rfl rfl rfl (by kernel_rfl) Tryz.func5 closed
  (of_decide_eq_true (by kernel_rfl)) (by unfold Func.isWrapper;first|(rw[if_pos (by decide +kernel)];kernel_rfl)|(rw[if_neg (by decide +kernel)];exact⟨rfl,rfl⟩))
  (fun os started H enc _=>lifted os started H enc)

theorem proved:Rows.CodegenSameSaid :=
 over
#print axioms proved
end Go.Proofs.YtgaodkfneooonaaGreat.codegenSame
