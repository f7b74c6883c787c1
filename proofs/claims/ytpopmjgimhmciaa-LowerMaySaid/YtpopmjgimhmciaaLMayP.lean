/- For every input the law LowerMay answers true, and its arguments read as before. No condition. -/
import Derived.Test.YtpopmjgimhmciaaLowerM
import Derived.Test.YtpopmjgimhmciaaArgsU
import Derived.Test.YtpopmjgimhmciaaRows
import Derived.WalkKit
import Derived.ProofKit
import Derived.OpenShut
import Derived.ChangeMaps5
namespace Go.Proofs.Ytpopmjgimhmciaa.lowerMay
open Go.Kc Go.ChangeShapes Go.WideShapes Go.ChangeAt Go.RowKit Go.ChangeMaps

theorem types:∀ t ∈ (#[30]:Array TypeId).toList,t < Try.prog.types.size:=by
 have h:((#[30]:Array TypeId).toList.all fun t=>decide (t < Try.prog.types.size)) = true:=by kernel_rfl
 exact fun t ht=>of_decide_eq_true (List.all_eq_true.1 h t ht)
theorem own:ownKnob Try.prog.godebug = none:=by kernel_rfl
set_option maxRecDepth 100000 in
theorem lifted (os:Os) (started:os.Started) (H:Type) (enc:TypeId × Value → H) :
  ReturnsInHanded {} Try.checked os 6 .any (Rows.lowerMaySpec.pre6 enc Try.prog Try.f6 Rows.lowerMayRow.domain false) (Rows.lowerMaySpec.post enc Try.prog Try.f6 false true false false):=by
 refine returnsInHanded_of_change (C:=Try.checked) own started (by kernel_rfl) Try.func6
  (ChangeSpec.witness6 (enc:=enc) (C:=Try.checked) false ⟨#[],#[.agg #[.slice none 0 0,.int .u8 0,.slice none 0 0,.int .u32 0,.int .u8 0,.slice none 0 0,.slice none 0 0,.int .u8 0,.int .u64 0,.bool false,.bool false,.bool false,.bool false]],[]⟩ 8 (by kernel_rfl) (by kernel_rfl) (by kernel_rfl) (by kernel_rfl)) ?_
 intro W base args ds gs before hval0 hW hcnd _
 have hval:∀ (j:Nat) t v,Try.f6.params[j]? = some t → args[j]? = some v → Value.okWide Try.prog W .any base t v:=hval0
 have hW':=hW
 obtain ⟨p,q,hA0,hV,rfl,hfz,hnd⟩:=hW
 have hA:DataW.TrodAll enc Try.prog W 0 (fun _=>true) true Try.f6.params.toList args.toList ds p:=hA0
 rw [Try.params6] at hA hval
 obtain ⟨v0,vs0,d0,ds0,p0,q0,hargs0,rfl,rfl,h0,r0⟩:=trodAll_cons hA
 obtain ⟨rfl,rfl,rfl⟩:=trodAll_nil r0
 obtain rfl:args = #[v0]:=by cases args; simp_all
 obtain ⟨rfl,rfl⟩:=trodVars_none hV
 have k0:=hval 0 30 v0 rfl rfl
 unfold Value.okWide at k0
 rw [Try.underlying30] at k0
 obtain ⟨c0,hc0,_⟩:=k0
 obtain ⟨a0,i0,rel0⟩:=(Args.oPol (enc:=enc) (w:=W)).agg ⟨c0,hc0⟩ h0
 clear hA0 hval0
 simp only [List.append_nil] at hW'
 refine ((Walk.lowerMay a0 i0).law ⟨_,Try.func6,by first | kernel_rfl | decide,rfl⟩ W (.cons _ _ _ _ rel0 .nil)).mono fun e W' ⟨he,hg⟩=>?_
 subst he
 exact ⟨_,rfl,qjZ (T:=(· < Try.prog.types.size)) (pv:=[]) hW' rfl Args.kids Args.full (by rw [Try.params6]; exact types) (fun _ _ _=>(trodAll_cons_mk (shut_bool Try.underlying4 _) trodAll_mk0)) (fun _=>rfl) hg⟩

theorem over:Rows.lowerMayRow.holds Try.pinned (OpenSpec.ofChange Rows.lowerMaySpec) :=
 OpenClaim.holds_of_wide 6 Try.f6 rfl rfl rfl rfl rfl rfl rfl ⟨rfl,rfl,rfl,rfl,rfl⟩ rfl rfl rfl rfl rfl (by kernel_rfl) Try.func6 (by kernel_rfl)
  (of_decide_eq_true (by kernel_rfl)) (by unfold Func.isWrapper; first | (rw [if_pos (by decide +kernel)]; kernel_rfl) | (rw [if_neg (by decide +kernel)]; exact ⟨rfl,rfl⟩))
  (fun os started H enc _=>lifted os started H enc)

theorem proved:Rows.LowerMaySaid :=
 over
#print axioms proved
end Go.Proofs.Ytpopmjgimhmciaa.lowerMay
