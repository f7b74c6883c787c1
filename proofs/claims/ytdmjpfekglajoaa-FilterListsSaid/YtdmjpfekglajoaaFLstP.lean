/- For every input the law FilterLists answers true, and its arguments read as before. No condition. -/
import Derived.Test.YtdmjpfekglajoaaFilterLists
import Derived.Test.YtdmjpfekglajoaaArgsL
import Derived.Test.YtdmjpfekglajoaaRows
import Derived.WalkKit
import Derived.ProofKit
import Derived.OpenShut
import Derived.ChangeMaps5
namespace Go.Proofs.Ytdmjpfekglajoaa.filterLists
open Go.Kc Go.ChangeShapes Go.WideShapes Go.ChangeAt Go.RowKit Go.ChangeMaps

theorem types:∀ t ∈ (#[30,65]:Array TypeId).toList,t < Try.prog.types.size:=by
  have h:((#[30,65]:Array TypeId).toList.all fun t=>decide (t < Try.prog.types.size)) = true:=by kernel_rfl
  exact fun t ht=>of_decide_eq_true (List.all_eq_true.1 h t ht)
theorem one {H:Type} {enc:TypeId × Value → H} {w:World} {α:Type} {P:Program} {t:TypeId} {I:α → Prop} {g:α → AV} (h:Opens enc P w t I (fun a=>[g a])) {v:Value} (hv:v.cells = #[v]) {d:DataW H} {p:List MemPlace} (hd:DataW.Trod enc P w 0 (fun _=>true) true t v d p):∃ a,I a ∧ VR σ0 (ice w) (g a) v:=by
  obtain ⟨fuel,hd⟩:=hd
  rw [hv] at hd
  obtain ⟨a,h1,h2⟩:=h _ _ _ hd
  cases h2 with
  | cons _ _ _ _ h2 _=>exact ⟨a,h1,h2.vr⟩
theorem own:ownKnob Try.prog.godebug = none:=by kernel_rfl
set_option maxRecDepth 100000 in
theorem lifted (os:Os) (started:os.Started) (H:Type) (enc:TypeId × Value → H) :
    ReturnsInHanded {} Try.checked os 8 .any (Rows.filterListsSpec.pre6 enc Try.prog Try.f8 Rows.filterListsRow.domain false) (Rows.filterListsSpec.post enc Try.prog Try.f8 false true false false):=by
  refine returnsInHanded_of_change (C:=Try.checked) own started (by kernel_rfl) Try.func8
    (ChangeSpec.witness6 (enc:=enc) (C:=Try.checked) false ⟨#[],#[.slice none 0 0,.slice none 0 0],[]⟩ 8 (by kernel_rfl) (by kernel_rfl) (by kernel_rfl) (by kernel_rfl)) ?_
  intro W base args ds gs before hval0 hW hcnd _
  have hval:∀ (j:Nat) t v,Try.f8.params[j]? = some t → args[j]? = some v → Value.okWide Try.prog W .any base t v:=hval0
  have hW':=hW
  obtain ⟨p,q,hA0,hV,rfl,hfz,hnd⟩:=hW
  have hA:DataW.TrodAll enc Try.prog W 0 (fun _=>true) true Try.f8.params.toList args.toList ds p:=hA0
  rw [Try.params8] at hA hval
  obtain ⟨v0,vs0,d0,ds0,p0,q0,hargs0,rfl,rfl,h0,r0⟩:=trodAll_cons hA
  obtain ⟨v1,vs1,d1,ds1,p1,q1,hargs1,rfl,rfl,h1,r1⟩:=trodAll_cons r0
  obtain ⟨rfl,rfl,rfl⟩:=trodAll_nil r1
  obtain rfl:args = #[v0,v1]:=by cases args; simp_all
  obtain ⟨rfl,rfl⟩:=trodVars_none hV
  have k0:=hval 0 30 v0 rfl rfl
  unfold Value.okWide at k0
  rw [Try.underlying30] at k0
  obtain ⟨a0,_,rel0⟩:=one (Args.oStrs (enc:=enc) (w:=W)) (by cases v0 <;> first | rfl | (simp [Cell.okWide,Cell.ok,Try.underlying30] at k0)) h0
  have k1:=hval 1 65 v1 rfl rfl
  unfold Value.okWide at k1
  rw [Try.underlying65] at k1
  obtain ⟨a1,i1,rel1⟩:=one (Args.oBytes (enc:=enc) (w:=W)) (by cases v1 <;> first | rfl | (simp [Cell.okWide,Cell.ok,Try.underlying65] at k1)) h1
  clear hA0 hval0
  simp only [List.append_nil] at hW'
  refine ((Walk.flists a0 a1 i1).law ⟨_,Try.func8,by first | kernel_rfl | decide,rfl⟩ W (.cons _ _ _ _ rel0 (.cons _ _ _ _ rel1 .nil))).mono fun e W' ⟨he,hg⟩=>?_
  subst he
  exact ⟨_,rfl,post_of_stay (T:=(· < Try.prog.types.size)) (pv:=[]) hW' rfl Args.kids Args.full (by rw [Try.params8]; exact types) (fun _ _ _=>(trodAll_cons_mk (shut_bool Try.underlying4 _) trodAll_mk0)) (fun _=>rfl) hg⟩

theorem over:Rows.filterListsRow.holds Try.pinned (OpenSpec.ofChange Rows.filterListsSpec) :=
  OpenClaim.holds_of_wide 8 Try.f8 rfl rfl rfl rfl rfl rfl rfl ⟨rfl,rfl,rfl,rfl,rfl⟩ rfl rfl rfl rfl rfl (by kernel_rfl) Try.func8 (by kernel_rfl)
    (of_decide_eq_true (by kernel_rfl)) (by unfold Func.isWrapper; first | (rw [if_pos (by decide +kernel)]; kernel_rfl) | (rw [if_neg (by decide +kernel)]; exact ⟨rfl,rfl⟩))
    (fun os started H enc _=>lifted os started H enc)

theorem proved:Rows.FilterListsSaid :=
  over
#print axioms proved
end Go.Proofs.Ytdmjpfekglajoaa.filterLists
