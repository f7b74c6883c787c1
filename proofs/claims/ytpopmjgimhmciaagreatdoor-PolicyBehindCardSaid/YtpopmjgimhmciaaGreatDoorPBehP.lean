/- For every input the law PolicyBehind answers true, and its arguments read as before. No condition. -/
import Derived.Test.YtpopmjgimhmciaaGreatDoorPolBeh
import Derived.Test.YtpopmjgimhmciaaGreatDoorArgsP
import Derived.Test.YtpopmjgimhmciaaGreatDoorRows
import Derived.Test.YtpopmjgimhmciaaGreatDoorCards
import Derived.Test.YtpopmjgimhmciaaGreatDoorTie
import Derived.LaidMore
import Derived.LaidHandle
import Derived.LaidLaws
import Derived.SevenTiedAt
import Derived.Stop.Joined
import Derived.WalkKit
import Derived.ProofKit
import Derived.OpenShut
import Derived.ChangeMaps5
namespace Go.Proofs.YtpopmjgimhmciaaGreatDoor.policyBehind
open Go.Kc Go.ChangeShapes Go.WideShapes Go.ChangeAt Go.RowKit Go.ChangeMaps

theorem types:∀t ∈ (#[22,3]:Array TypeId).toList,t<Tryz.prog.types.size:=by
 have h:((#[22,3]:Array TypeId).toList.all fun t=>decide (t<Tryz.prog.types.size))=true:=by kernel_rfl
 exact fun t ht=>of_decide_eq_true (List.all_eq_true.1 h t ht)
theorem one{H:Type}{enc:TypeId×Value->H}{w:World} [TabOk w]{α:Type}{P:Program}{t:TypeId}{I:α->Prop}{g:α->AV}(h:XD enc P w t I (fun a=>[g a])){v:Value}(hv:v.cells = #[v]){d:DataW H}{p:List MemPlace}(hd:DataW.Trod enc P w 0 (fun _=>true) true t v d p):∃a,I a∧VR σ0 (ice w) (g a) v:=by
 obtain⟨fuel,hd⟩:=hd;rw[hv] at hd;obtain⟨a,h1,h2⟩:=h _ _ _ hd;cases h2 with
 | cons _ _ _ _ h2 _=>exact⟨a,h1,h2.vr⟩
theorem own:ownKnob Tryz.prog.godebug=none:=by kernel_rfl
theorem door_met(os:Os)(args:Array Value):laidMetH Tryz.prog Rows.policyBehindRow.laid ((World.doorLaid Tryz.prog 4000 os).forCall (fun _ _=>0) ⟨#[],args,[]⟩).memory :=
 laidMetH_of_parts3 (fuel:=8) (laidMet_of_run' 8 (by kernel_rfl) (by kernel_rfl)) (by kernel_rfl) (by kernel_rfl)
set_option maxRecDepth 100000 in
theorem lifted(os:Os)(started:os.Started)(H:Type)(enc:TypeId×Value->H) :
  ReturnsInHanded {} Tryz.checked os 6 .any (fun w args=>(Rows.policyBehindSpec.pre enc Tryz.prog Tryz.f6 [] false w args∧laidMetH Tryz.prog Rows.policyBehindRow.laid w)∧sizedMet enc Tryz.prog Tryz.f6 (OpenSpec.ofChange Rows.policyBehindSpec) false w args) (Rows.policyBehindSpec.post enc Tryz.prog Tryz.f6 false true false false):=by
 refine returnsInHanded_of_change_and (C:=Tryz.checked) (X:=fun w _=>laidMetH Tryz.prog Rows.policyBehindRow.laid w) (fun _ _ _ hh h=>h.of_heap hh) own started (by kernel_rfl) Tryz.func6
  (ChangeSpec.witness_shaped (enc:=enc) (C:=Tryz.checked) (os:=os) (X:=fun w _=>laidMetH Tryz.prog Rows.policyBehindRow.laid w) false (World.doorLaid Tryz.prog 4000 os) #[.slice none 0 0,.int .i64 0] 8 rfl (World.shaped_of_RefB (by kernel_rfl) (by kernel_rfl)) (by kernel_rfl) (by kernel_rfl) (by kernel_rfl) (door_met os _)) ?_
 intro W base args ds gs before hval0 hW hcnd _ hL _
 haveI:TabOk W:=Walk.tabsOk hL (by kernel_rfl)
 have hval:∀(j:Nat) t v,Tryz.f6.params[j]?=some t->args[j]?=some v->Value.okWide Tryz.prog W .any base t v:=hval0;have hW':=hW;obtain⟨p,q,hA0,hV,rfl,hfz,hnd⟩:=hW;have hA:DataW.TrodAll enc Tryz.prog W 0 (fun _=>true) true Tryz.f6.params.toList args.toList ds p:=hA0
 rw[Tryz.params6] at hA hval;obtain⟨v0,vs0,d0,ds0,p0,q0,hargs0,rfl,rfl,h0,r0⟩:=trodAll_cons hA;obtain⟨v1,vs1,d1,ds1,p1,q1,hargs1,rfl,rfl,h1,r1⟩:=trodAll_cons r0;obtain⟨rfl,rfl,rfl⟩:=trodAll_nil r1;obtain rfl:args = #[v0,v1]:=by cases args;simp_all
 obtain⟨rfl,rfl⟩:=trodVars_none hV;have k0:=hval 0 22 v0 rfl rfl;unfold Value.okWide at k0;rw[Tryz.underlying22] at k0;obtain⟨a0,_,rel0⟩:=one (Args.oAsgs (enc:=enc) (w:=W)) (by cases v0<;>first|rfl|(simp[Cell.okWide,Cell.ok,Tryz.underlying22] at k0)) h0
 obtain⟨a1,rfl,rfl,rfl,w1⟩:=open_int Tryz.underlying3 (hval 1 3 v1 rfl rfl) h1;clear hA0 hval0;simp only[List.append_nil] at hW';refine ((Walk.polBeh a0 a1 w1).law ⟨_,Tryz.func6,by first|kernel_rfl|decide,rfl⟩ W (.cons _ _ _ _ rel0 (.cons _ _ _ _ (.i _ _) .nil))).mono fun e W' ⟨he,hg⟩=>?_
 subst he;exact⟨_,rfl,qmJ (T:=(· < Tryz.prog.types.size)) (pv:=[]) hW' rfl Args.kids Args.full (by rw[Tryz.params6];exact types) (fun _ _ _=>(trodAll_cons_mk (shut_bool Tryz.underlying4 _) trodAll_mk0)) (fun _=>rfl) hg⟩

theorem over:Rows.policyBehindRow.holds Tryz.pinned (OpenSpec.ofChange Rows.policyBehindSpec) :=
 OpenClaim.holds_of_wide 6 Tryz.f6 rfl rfl rfl rfl rfl rfl rfl ⟨rfl,rfl,rfl,rfl,rfl⟩ rfl rfl rfl rfl rfl (by kernel_rfl) Tryz.func6 (by kernel_rfl)
  (of_decide_eq_true (by kernel_rfl)) (by unfold Func.isWrapper;first|(rw[if_pos (by decide +kernel)];kernel_rfl)|(rw[if_neg (by decide +kernel)];exact⟨rfl,rfl⟩))
  (fun os started H enc _=>lifted os started H enc)

theorem proved:Rows.PolicyBehindCardSaid :=
 Claim7.holds_tied_plain_at .later [] [.data,.data,.data] true (true,"75a8ccb431f7310db95ba1c5f63b5929ac010581ddf5d5e3de381f8803fb1470") false
  over (fun _ h=>by cases h) (by kernel_rfl) (fun _ h=>by cases h) policyBehind_row_tie rfl ⟨rfl,rfl⟩ (by kernel_rfl) rfl
  (fun f fn hf hfn=>by
   obtain rfl:f=6:=Option.some.inj ((show Tryz.prog.funcNamed Rows.policyBehindRow.func=some 6 by kernel_rfl).symm.trans hf) |>.symm
   obtain rfl:fn=Tryz.f6:=(Option.some.inj (Tryz.func6.symm.trans hfn)).symm
   exact⟨by kernel_rfl,fun j t ht=>by
    rw[Tryz.params6] at ht;have hm:t ∈ [22,3]:=by simpa using Array.mem_of_getElem? ht
    have hall:([22,3].all fun u=>!Tryz.prog.wantsStandIn u)=true:=by kernel_rfl
    exact (show Tryz.prog.wantsStandIn t=false by simpa using List.all_eq_true.1 hall t hm)⟩)
  (by kernel_rfl)
#print axioms proved
end Go.Proofs.YtpopmjgimhmciaaGreatDoor.policyBehind
