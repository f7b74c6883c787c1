/- For every input the law LowerMeans answers true, and its arguments read as before. No condition. -/
import Derived.Test.YtpopmjgimhmciaaGreatLowerZ
import Derived.Test.YtpopmjgimhmciaaGreatArgsZ
import Derived.Test.YtpopmjgimhmciaaGreatRows
import Derived.WalkKit
import Derived.ProofKit
import Derived.OpenShut
import Derived.ChangeMaps5
namespace Go.Proofs.YtpopmjgimhmciaaGreat.lowerMeans
open Go.Kc Go.ChangeShapes Go.WideShapes Go.ChangeAt Go.RowKit Go.ChangeMaps

theorem types:∀t ∈ (#[30,3,3,33,4,3]:Array TypeId).toList,t<Tryz.prog.types.size:=by
 have h:((#[30,3,3,33,4,3]:Array TypeId).toList.all fun t=>decide (t<Tryz.prog.types.size))=true:=by kernel_rfl
 exact fun t ht=>of_decide_eq_true (List.all_eq_true.1 h t ht)
theorem own:ownKnob Tryz.prog.godebug=none:=by kernel_rfl
set_option maxRecDepth 100000 in
theorem lifted(os:Os)(started:os.Started)(H:Type)(enc:TypeId×Value->H) :
  ReturnsInHanded {} Tryz.checked os 3 .any (Rows.lowerMeansSpec.pre6 enc Tryz.prog Tryz.f3 Rows.lowerMeansRow.domain false) (Rows.lowerMeansSpec.post enc Tryz.prog Tryz.f3 false true false false):=by
 refine returnsInHanded_of_change (C:=Tryz.checked) own started (by kernel_rfl) Tryz.func3
  (ChangeSpec.witness6 (enc:=enc) (C:=Tryz.checked) false ⟨#[],#[.agg #[.slice none 0 0,.int .u8 0,.slice none 0 0,.int .u32 0,.int .u8 0,.slice none 0 0,.slice none 0 0,.int .u8 0,.int .u64 0,.bool false,.bool false,.bool false,.bool false],.int .i64 0,.int .i64 0,.agg #[.int .u32 0,.int .u32 0,.int .u64 0,.int .u64 0,.int .u64 0,.int .u64 0,.int .u64 0,.int .u64 0,.int .u64 0],.bool false,.int .i64 0],[]⟩ 8 (by kernel_rfl) (by kernel_rfl) (by kernel_rfl) (by kernel_rfl)) ?_
 intro W base args ds gs before hval0 hW hcnd _;have hval:∀(j:Nat) t v,Tryz.f3.params[j]?=some t->args[j]?=some v->Value.okWide Tryz.prog W .any base t v:=hval0;have hW':=hW;obtain⟨p,q,hA0,hV,rfl,hfz,hnd⟩:=hW;have hA:DataW.TrodAll enc Tryz.prog W 0 (fun _=>true) true Tryz.f3.params.toList args.toList ds p:=hA0
 rw[Tryz.params3] at hA hval;obtain⟨v0,vs0,d0,ds0,p0,q0,hargs0,rfl,rfl,h0,r0⟩:=trodAll_cons hA;obtain⟨v1,vs1,d1,ds1,p1,q1,hargs1,rfl,rfl,h1,r1⟩:=trodAll_cons r0;obtain⟨v2,vs2,d2,ds2,p2,q2,hargs2,rfl,rfl,h2,r2⟩:=trodAll_cons r1;obtain⟨v3,vs3,d3,ds3,p3,q3,hargs3,rfl,rfl,h3,r3⟩:=trodAll_cons r2;obtain⟨v4,vs4,d4,ds4,p4,q4,hargs4,rfl,rfl,h4,r4⟩:=trodAll_cons r3;obtain⟨v5,vs5,d5,ds5,p5,q5,hargs5,rfl,rfl,h5,r5⟩:=trodAll_cons r4;obtain⟨rfl,rfl,rfl⟩:=trodAll_nil r5;obtain rfl:args = #[v0,v1,v2,v3,v4,v5]:=by cases args;simp_all
 obtain⟨rfl,rfl⟩:=trodVars_none hV;have k0:=hval 0 30 v0 rfl rfl;unfold Value.okWide at k0;rw[Tryz.underlying30] at k0;obtain⟨c0,hc0,_⟩:=k0;obtain⟨a0,i0,rel0⟩:=(Args.oPolZ (enc:=enc) (w:=W)).agg ⟨c0,hc0⟩ h0;obtain⟨a1,rfl,rfl,rfl,w1⟩:=open_int Tryz.underlying3 (hval 1 3 v1 rfl rfl) h1;obtain⟨a2,rfl,rfl,rfl,w2⟩:=open_int Tryz.underlying3 (hval 2 3 v2 rfl rfl) h2;have k3:=hval 3 33 v3 rfl rfl;unfold Value.okWide at k3;rw[Tryz.underlying33] at k3;obtain⟨c3,hc3,_⟩:=k3;obtain⟨a3,i3,rel3⟩:=(Args.oData (enc:=enc) (w:=W)).agg ⟨c3,hc3⟩ h3;obtain⟨b4,rfl,rfl,rfl⟩:=open_bool Tryz.underlying4 (hval 4 4 v4 rfl rfl) h4;obtain⟨a5,rfl,rfl,rfl,w5⟩:=open_int Tryz.underlying3 (hval 5 3 v5 rfl rfl) h5;clear hA0 hval0;simp only[List.append_nil] at hW';refine ((Walk.lowerMeans a0 a1 w1 a2 w2 a3 b4 a5 w5 i0 i3).law ⟨_,Tryz.func3,by first|kernel_rfl|decide,rfl⟩ W (.cons _ _ _ _ rel0 (.cons _ _ _ _ (.i _ _) (.cons _ _ _ _ (.i _ _) (.cons _ _ _ _ rel3 (.cons _ _ _ _ (.b _) (.cons _ _ _ _ (.i _ _) .nil))))))).mono fun e W' ⟨he,hg⟩=>?_
 subst he;exact⟨_,rfl,qjR (T:=(· < Tryz.prog.types.size)) (pv:=[]) hW' rfl Args.kids Args.full (by rw[Tryz.params3];exact types) (fun _ _ _=>(trodAll_cons_mk (shut_bool Tryz.underlying4 _) trodAll_mk0)) (fun _=>rfl) hg⟩

theorem over:Rows.lowerMeansRow.holds Tryz.pinned (OpenSpec.ofChange Rows.lowerMeansSpec) :=
 OpenClaim.holds_of_wide 3 Tryz.f3 rfl rfl rfl rfl rfl rfl rfl ⟨rfl,rfl,rfl,rfl,rfl⟩ rfl rfl rfl rfl rfl (by kernel_rfl) Tryz.func3 (by kernel_rfl)
  (of_decide_eq_true (by kernel_rfl)) (by unfold Func.isWrapper;first|(rw[if_pos (by decide +kernel)];kernel_rfl)|(rw[if_neg (by decide +kernel)];exact⟨rfl,rfl⟩))
  (fun os started H enc _=>lifted os started H enc)

theorem proved:Rows.LowerMeansSaid :=
 over
#print axioms proved
end Go.Proofs.YtpopmjgimhmciaaGreat.lowerMeans
