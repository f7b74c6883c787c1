/- For every input the law StackEval answers true, and its arguments read as before. No condition. -/
import Derived.Test.YtpgbjeabmkbmbaaGreatEvalB
import Derived.Test.YtpgbjeabmkbmbaaGreatArgsA
import Derived.Test.YtpgbjeabmkbmbaaGreatRows
import Derived.WalkKit
import Derived.ProofKit
import Derived.OpenShut
import Derived.ChangeMaps5
namespace Go.Proofs.YtpgbjeabmkbmbaaGreat.stackEval
open Go.Kc Go.ChangeShapes Go.WideShapes Go.ChangeAt Go.RowKit Go.ChangeMaps

theorem types:∀t ∈ (#[22,32,27]:Array TypeId).toList,t<Tryz.prog.types.size:=by
 have h:((#[22,32,27]:Array TypeId).toList.all fun t=>decide (t<Tryz.prog.types.size))=true:=by kernel_rfl
 exact fun t ht=>of_decide_eq_true (List.all_eq_true.1 h t ht)
theorem one{H:Type}{enc:TypeId×Value->H}{w:World} [TabOk w]{α:Type}{P:Program}{t:TypeId}{I:α->Prop}{g:α->AV}(h:kH enc P w t I (fun a=>[g a])){v:Value}(hv:v.cells = #[v]){d:DataW H}{p:List MemPlace}(hd:DataW.Trod enc P w 0 (fun _=>true) true t v d p):∃a,I a∧VR σ0 (ice w) (g a) v:=by
 obtain⟨fuel,hd⟩:=hd;rw[hv] at hd;obtain⟨a,h1,h2⟩:=h _ _ _ hd;cases h2 with
 | cons _ _ _ _ h2 _=>exact⟨a,h1,h2.vr⟩
theorem own:ownKnob Tryz.prog.godebug=none:=by kernel_rfl
set_option maxRecDepth 100000 in
theorem lifted(os:Os)(started:os.Started)(H:Type)(enc:TypeId×Value->H) :
  ReturnsInHanded {} Tryz.checked os 4 .any (Rows.stackEvalSpec.pre6 enc Tryz.prog Tryz.f4 Rows.stackEvalRow.domain false) (Rows.stackEvalSpec.post enc Tryz.prog Tryz.f4 false true false false):=by
 refine returnsInHanded_of_change (C:=Tryz.checked) own started (by kernel_rfl) Tryz.func4
  (ChangeSpec.witness6 (enc:=enc) (C:=Tryz.checked) false ⟨#[],#[.slice none 0 0,.slice none 0 0,.agg #[.int .u32 0,.int .u32 0,.int .u64 0,.int .u64 0,.int .u64 0,.int .u64 0,.int .u64 0,.int .u64 0,.int .u64 0]],[]⟩ 8 (by kernel_rfl) (by kernel_rfl) (by kernel_rfl) (by kernel_rfl)) ?_
 intro W base args ds gs before hval0 hW hcnd _;have hval:∀(j:Nat) t v,Tryz.f4.params[j]?=some t->args[j]?=some v->Value.okWide Tryz.prog W .any base t v:=hval0;have hW':=hW;obtain⟨p,q,hA0,hV,rfl,hfz,hnd⟩:=hW;have hA:DataW.TrodAll enc Tryz.prog W 0 (fun _=>true) true Tryz.f4.params.toList args.toList ds p:=hA0
 rw[Tryz.params4] at hA hval;obtain⟨v0,vs0,d0,ds0,p0,q0,hargs0,rfl,rfl,h0,r0⟩:=trodAll_cons hA;obtain⟨v1,vs1,d1,ds1,p1,q1,hargs1,rfl,rfl,h1,r1⟩:=trodAll_cons r0;obtain⟨v2,vs2,d2,ds2,p2,q2,hargs2,rfl,rfl,h2,r2⟩:=trodAll_cons r1;obtain⟨rfl,rfl,rfl⟩:=trodAll_nil r2;obtain rfl:args = #[v0,v1,v2]:=by cases args;simp_all
 obtain⟨rfl,rfl⟩:=trodVars_none hV;have k0:=hval 0 22 v0 rfl rfl;unfold Value.okWide at k0;rw[Tryz.underlying22] at k0;obtain⟨a0,i0,rel0⟩:=one (Args.oStk (enc:=enc) (w:=W)) (by cases v0<;>first|rfl|(simp[Cell.okWide,Cell.ok,Tryz.underlying22] at k0)) h0
 have k1:=hval 1 32 v1 rfl rfl;unfold Value.okWide at k1;rw[Tryz.underlying32] at k1;obtain⟨a1,i1,rel1⟩:=one (Args.oBytes (enc:=enc) (w:=W)) (by cases v1<;>first|rfl|(simp[Cell.okWide,Cell.ok,Tryz.underlying32] at k1)) h1
 have k2:=hval 2 27 v2 rfl rfl;unfold Value.okWide at k2;rw[Tryz.underlying27] at k2;obtain⟨c2,hc2,_⟩:=k2;obtain⟨a2,i2,rel2⟩:=(Args.oData (enc:=enc) (w:=W)).agg ⟨c2,hc2⟩ h2;clear hA0 hval0;simp only[List.append_nil] at hW';refine ((Walk.stackEval a0 a1 a2 i0 i1 i2).law ⟨_,Tryz.func4,by first|kernel_rfl|decide,rfl⟩ W (.cons _ _ _ _ rel0 (.cons _ _ _ _ rel1 (.cons _ _ _ _ rel2 .nil)))).mono fun e W' ⟨he,hg⟩=>?_
 subst he;exact⟨_,rfl,qkR (T:=(· < Tryz.prog.types.size)) (pv:=[]) hW' rfl Args.kids Args.full (by rw[Tryz.params4];exact types) (fun _ _ _=>(trodAll_cons_mk (shut_bool Tryz.underlying4 _) trodAll_mk0)) (fun _=>rfl) hg⟩

theorem over:Rows.stackEvalRow.holds Tryz.pinned (OpenSpec.ofChange Rows.stackEvalSpec) :=
 OpenClaim.holds_of_wide 4 Tryz.f4 rfl rfl rfl rfl rfl rfl rfl ⟨rfl,rfl,rfl,rfl,rfl⟩ rfl rfl rfl rfl rfl (by kernel_rfl) Tryz.func4 (by kernel_rfl)
  (of_decide_eq_true (by kernel_rfl)) (by unfold Func.isWrapper;first|(rw[if_pos (by decide +kernel)];kernel_rfl)|(rw[if_neg (by decide +kernel)];exact⟨rfl,rfl⟩))
  (fun os started H enc _=>lifted os started H enc)

theorem proved:Rows.StackEvalSaid :=
 over
#print axioms proved
end Go.Proofs.YtpgbjeabmkbmbaaGreat.stackEval
