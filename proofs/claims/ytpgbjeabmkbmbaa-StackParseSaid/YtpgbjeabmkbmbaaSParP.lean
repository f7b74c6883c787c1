/- For every input the law StackParse answers true, and its arguments read as before. No condition. -/
import Derived.Test.YtpgbjeabmkbmbaaStackP
import Derived.Test.YtpgbjeabmkbmbaaArgsH
import Derived.Test.YtpgbjeabmkbmbaaRows
import Derived.WalkKit
import Derived.ProofKit
import Derived.OpenShut
import Derived.ChangeMaps5
namespace Go.Proofs.Ytpgbjeabmkbmbaa.stackParse
open Go.Kc Go.ChangeShapes Go.WideShapes Go.ChangeAt Go.RowKit Go.ChangeMaps

theorem types:∀t ∈ (#[22]:Array TypeId).toList,t<Try.prog.types.size:=by
 have h:((#[22]:Array TypeId).toList.all fun t=>decide (t<Try.prog.types.size))=true:=by kernel_rfl
 exact fun t ht=>of_decide_eq_true (List.all_eq_true.1 h t ht)
theorem one{H:Type}{enc:TypeId×Value->H}{w:World} [TabOk w]{α:Type}{P:Program}{t:TypeId}{I:α->Prop}{g:α->AV}(h:QU enc P w t I (fun a=>[g a])){v:Value}(hv:v.cells = #[v]){d:DataW H}{p:List MemPlace}(hd:DataW.Trod enc P w 0 (fun _=>true) true t v d p):∃a,I a∧VR σ0 (ice w) (g a) v:=by
 obtain⟨fuel,hd⟩:=hd;rw[hv] at hd;obtain⟨a,h1,h2⟩:=h _ _ _ hd;cases h2 with
 | cons _ _ _ _ h2 _=>exact⟨a,h1,h2.vr⟩
theorem own:ownKnob Try.prog.godebug=none:=by kernel_rfl
set_option maxRecDepth 100000 in
theorem lifted(os:Os)(started:os.Started)(H:Type)(enc:TypeId×Value->H) :
  ReturnsInHanded {} Try.checked os 3 .any (Rows.stackParseSpec.pre6 enc Try.prog Try.f3 Rows.stackParseRow.domain false) (Rows.stackParseSpec.post enc Try.prog Try.f3 false true false false):=by
 refine returnsInHanded_of_change (C:=Try.checked) own started (by kernel_rfl) Try.func3
  (ChangeSpec.witness6 (enc:=enc) (C:=Try.checked) false ⟨#[],#[.slice none 0 0],[]⟩ 8 (by kernel_rfl) (by kernel_rfl) (by kernel_rfl) (by kernel_rfl)) ?_
 intro W base args ds gs before hval0 hW hcnd _;have hval:∀(j:Nat) t v,Try.f3.params[j]?=some t->args[j]?=some v->Value.okWide Try.prog W .any base t v:=hval0;have hW':=hW;obtain⟨p,q,hA0,hV,rfl,hfz,hnd⟩:=hW;have hA:DataW.TrodAll enc Try.prog W 0 (fun _=>true) true Try.f3.params.toList args.toList ds p:=hA0
 rw[Try.params3] at hA hval;obtain⟨v0,vs0,d0,ds0,p0,q0,hargs0,rfl,rfl,h0,r0⟩:=trodAll_cons hA;obtain⟨rfl,rfl,rfl⟩:=trodAll_nil r0;obtain rfl:args = #[v0]:=by cases args;simp_all
 obtain⟨rfl,rfl⟩:=trodVars_none hV;have k0:=hval 0 22 v0 rfl rfl;unfold Value.okWide at k0;rw[Try.underlying22] at k0;obtain⟨a0,i0,rel0⟩:=one (Args.oBytes (enc:=enc) (w:=W)) (by cases v0<;>first|rfl|(simp[Cell.okWide,Cell.ok,Try.underlying22] at k0)) h0
 clear hA0 hval0;simp only[List.append_nil] at hW';refine ((Walk.stackParse a0 i0).law ⟨_,Try.func3,by first|kernel_rfl|decide,rfl⟩ W (.cons _ _ _ _ rel0 .nil)).mono fun e W' ⟨he,hg⟩=>?_
 subst he;exact⟨_,rfl,qkj (T:=(· < Try.prog.types.size)) (pv:=[]) hW' rfl Args.kids Args.full (by rw[Try.params3];exact types) (fun _ _ _=>(trodAll_cons_mk (shut_bool Try.underlying4 _) trodAll_mk0)) (fun _=>rfl) hg⟩

theorem over:Rows.stackParseRow.holds Try.pinned (OpenSpec.ofChange Rows.stackParseSpec) :=
 OpenClaim.holds_of_wide 3 Try.f3 rfl rfl rfl rfl rfl rfl rfl ⟨rfl,rfl,rfl,rfl,rfl⟩ rfl rfl rfl rfl rfl (by kernel_rfl) Try.func3 (by kernel_rfl)
  (of_decide_eq_true (by kernel_rfl)) (by unfold Func.isWrapper;first|(rw[if_pos (by decide +kernel)];kernel_rfl)|(rw[if_neg (by decide +kernel)];exact⟨rfl,rfl⟩))
  (fun os started H enc _=>lifted os started H enc)

theorem proved:Rows.StackParseSaid :=
 over
#print axioms proved
end Go.Proofs.Ytpgbjeabmkbmbaa.stackParse
