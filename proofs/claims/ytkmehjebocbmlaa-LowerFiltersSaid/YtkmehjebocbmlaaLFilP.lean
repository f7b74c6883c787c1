/- For every input the law LowerFilters answers true, and its arguments read as before. No condition. -/
import Derived.Test.YtkmehjebocbmlaaLowF
import Derived.Test.YtkmehjebocbmlaaArgsF
import Derived.Test.YtkmehjebocbmlaaRows
import Derived.WalkKit
import Derived.ProofKit
import Derived.OpenShut
import Derived.ChangeMaps5
namespace Go.Proofs.Ytkmehjebocbmlaa.lowerFilters
open Go.Kc Go.ChangeShapes Go.WideShapes Go.ChangeAt Go.RowKit Go.ChangeMaps

theorem types:∀t ∈ (#[30,3,3]:Array TypeId).toList,t<Try.prog.types.size:=by
 have h:((#[30,3,3]:Array TypeId).toList.all fun t=>decide (t<Try.prog.types.size))=true:=by kernel_rfl
 exact fun t ht=>of_decide_eq_true (List.all_eq_true.1 h t ht)
theorem own:ownKnob Try.prog.godebug=none:=by kernel_rfl
set_option maxRecDepth 100000 in
theorem lifted(os:Os)(started:os.Started)(H:Type)(enc:TypeId×Value->H) :
  ReturnsInHanded {} Try.checked os 3 .any (Rows.lowerFiltersSpec.pre6 enc Try.prog Try.f3 Rows.lowerFiltersRow.domain false) (Rows.lowerFiltersSpec.post enc Try.prog Try.f3 false true false false):=by
 refine returnsInHanded_of_change (C:=Try.checked) own started (by kernel_rfl) Try.func3
  (ChangeSpec.witness6 (enc:=enc) (C:=Try.checked) false ⟨#[],#[.agg #[.slice none 0 0,.int .u8 0,.slice none 0 0,.int .u32 0,.int .u8 0,.slice none 0 0,.slice none 0 0,.int .u8 0,.int .u64 0,.bool false,.bool false,.bool false,.bool false],.int .i64 0,.int .i64 0],[]⟩ 8 (by kernel_rfl) (by kernel_rfl) (by kernel_rfl) (by kernel_rfl)) ?_
 intro W base args ds gs before hval0 hW hcnd _;have hval:∀(j:Nat) t v,Try.f3.params[j]?=some t->args[j]?=some v->Value.okWide Try.prog W .any base t v:=hval0;have hW':=hW;obtain⟨p,q,hA0,hV,rfl,hfz,hnd⟩:=hW;have hA:DataW.TrodAll enc Try.prog W 0 (fun _=>true) true Try.f3.params.toList args.toList ds p:=hA0
 rw[Try.params3] at hA hval;obtain⟨v0,vs0,d0,ds0,p0,q0,hargs0,rfl,rfl,h0,r0⟩:=trodAll_cons hA;obtain⟨v1,vs1,d1,ds1,p1,q1,hargs1,rfl,rfl,h1,r1⟩:=trodAll_cons r0;obtain⟨v2,vs2,d2,ds2,p2,q2,hargs2,rfl,rfl,h2,r2⟩:=trodAll_cons r1;obtain⟨rfl,rfl,rfl⟩:=trodAll_nil r2;obtain rfl:args = #[v0,v1,v2]:=by cases args;simp_all
 obtain⟨rfl,rfl⟩:=trodVars_none hV;have k0:=hval 0 30 v0 rfl rfl;unfold Value.okWide at k0;rw[Try.underlying30] at k0;obtain⟨c0,hc0,_⟩:=k0;obtain⟨a0,i0,rel0⟩:=(Args.oPol (enc:=enc) (w:=W)).agg ⟨c0,hc0⟩ h0;obtain⟨a1,rfl,rfl,rfl,w1⟩:=open_int Try.underlying3 (hval 1 3 v1 rfl rfl) h1;obtain⟨a2,rfl,rfl,rfl,w2⟩:=open_int Try.underlying3 (hval 2 3 v2 rfl rfl) h2;clear hA0 hval0;simp only[List.append_nil] at hW';refine ((Walk.lowerFilters a0 a1 w1 a2 w2 i0).law ⟨_,Try.func3,by first|kernel_rfl|decide,rfl⟩ W (.cons _ _ _ _ rel0 (.cons _ _ _ _ (.i _ _) (.cons _ _ _ _ (.i _ _) .nil)))).mono fun e W' ⟨he,hg⟩=>?_
 subst he;exact⟨_,rfl,qjR (T:=(· < Try.prog.types.size)) (pv:=[]) hW' rfl Args.kids Args.full (by rw[Try.params3];exact types) (fun _ _ _=>(trodAll_cons_mk (shut_bool Try.underlying4 _) trodAll_mk0)) (fun _=>rfl) hg⟩

theorem over:Rows.lowerFiltersRow.holds Try.pinned (OpenSpec.ofChange Rows.lowerFiltersSpec) :=
 OpenClaim.holds_of_wide 3 Try.f3 rfl rfl rfl rfl rfl rfl rfl ⟨rfl,rfl,rfl,rfl,rfl⟩ rfl rfl rfl rfl rfl (by kernel_rfl) Try.func3 (by kernel_rfl)
  (of_decide_eq_true (by kernel_rfl)) (by unfold Func.isWrapper;first|(rw[if_pos (by decide +kernel)];kernel_rfl)|(rw[if_neg (by decide +kernel)];exact⟨rfl,rfl⟩))
  (fun os started H enc _=>lifted os started H enc)

theorem proved:Rows.LowerFiltersSaid :=
 over
#print axioms proved
end Go.Proofs.Ytkmehjebocbmlaa.lowerFilters
