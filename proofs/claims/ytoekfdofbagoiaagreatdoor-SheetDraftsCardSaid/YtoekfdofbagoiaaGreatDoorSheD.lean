/- For every input the law SheetDrafts answers true, and its arguments read as before. No condition. -/
import Derived.Test.YtoekfdofbagoiaaGreatDoorSheT
import Derived.Test.YtoekfdofbagoiaaGreatDoorArgsW
import Derived.Test.YtoekfdofbagoiaaGreatDoorRows
import Derived.Test.YtoekfdofbagoiaaGreatDoorCards
import Derived.Test.YtoekfdofbagoiaaGreatDoorTie
import Derived.LaidMore
import Derived.LaidHandle
import Derived.LaidLaws
import Derived.SevenTiedAt
import Derived.Stop.Joined
import Derived.WalkKit
import Derived.ProofKit
import Derived.OpenShut
import Derived.ChangeMaps5
namespace Go.Proofs.YtoekfdofbagoiaaGreatDoor.sheetDrafts
open Go.Kc Go.ChangeShapes Go.WideShapes Go.ChangeAt Go.RowKit Go.ChangeMaps

theorem types:∀t ∈ (#[22]:Array TypeId).toList,t<Tryz.prog.types.size:=by
 have h:((#[22]:Array TypeId).toList.all fun t=>decide (t<Tryz.prog.types.size))=true:=by kernel_rfl
 exact fun t ht=>of_decide_eq_true (List.all_eq_true.1 h t ht)
theorem one{H:Type}{enc:TypeId×Value->H}{w:World} [TabOk w]{α:Type}{P:Program}{t:TypeId}{I:α->Prop}{g:α->AV}(h:qaf enc P w t I (fun a=>[g a])){v:Value}(hv:v.cells = #[v]){d:DataW H}{p:List MemPlace}(hd:DataW.Trod enc P w 0 (fun _=>true) true t v d p):∃a,I a∧VR σ0 (ice w) (g a) v:=by
 obtain⟨fuel,hd⟩:=hd;rw[hv] at hd;obtain⟨a,h1,h2⟩:=h _ _ _ hd;cases h2 with
 | cons _ _ _ _ h2 _=>exact⟨a,h1,h2.vr⟩
theorem own:ownKnob Tryz.prog.godebug=none:=by kernel_rfl
theorem door_met(os:Os)(args:Array Value):laidMetH Tryz.prog Rows.sheetDraftsRow.laid ((World.doorLaid Tryz.prog 4000 os).forCall (fun _ _=>0) ⟨#[],args,[]⟩).memory :=
 laidMetH_of_parts3 (fuel:=8) (laidMet_of_run' 8 (by kernel_rfl) (by kernel_rfl)) (by kernel_rfl) (by kernel_rfl)
set_option maxRecDepth 100000 in
theorem lifted(os:Os)(started:os.Started)(H:Type)(enc:TypeId×Value->H) :
  ReturnsInHanded {} Tryz.checked os 3 .any (fun w args=>(Rows.sheetDraftsSpec.pre enc Tryz.prog Tryz.f3 [] false w args∧laidMetH Tryz.prog Rows.sheetDraftsRow.laid w)∧sizedMet enc Tryz.prog Tryz.f3 (OpenSpec.ofChange Rows.sheetDraftsSpec) false w args) (Rows.sheetDraftsSpec.post enc Tryz.prog Tryz.f3 false true false false):=by
 refine returnsInHanded_of_change_and (C:=Tryz.checked) (X:=fun w _=>laidMetH Tryz.prog Rows.sheetDraftsRow.laid w) (fun _ _ _ hh h=>h.of_heap hh) own started (by kernel_rfl) Tryz.func3
  (ChangeSpec.witness_shaped (enc:=enc) (C:=Tryz.checked) (os:=os) (X:=fun w _=>laidMetH Tryz.prog Rows.sheetDraftsRow.laid w) false (World.doorLaid Tryz.prog 4000 os) #[.slice none 0 0] 8 rfl (World.shaped_of_RefB (by kernel_rfl) (by kernel_rfl)) (by kernel_rfl) (by kernel_rfl) (by kernel_rfl) (door_met os _)) ?_
 intro W base args ds gs before hval0 hW hcnd _ hL _
 haveI:TabOk W:=Walk.tabsOk hL (by kernel_rfl)
 have hval:∀(j:Nat) t v,Tryz.f3.params[j]?=some t->args[j]?=some v->Value.okWide Tryz.prog W .any base t v:=hval0;have hW':=hW;obtain⟨p,q,hA0,hV,rfl,hfz,hnd⟩:=hW;have hA:DataW.TrodAll enc Tryz.prog W 0 (fun _=>true) true Tryz.f3.params.toList args.toList ds p:=hA0
 rw[Tryz.params3] at hA hval;obtain⟨v0,vs0,d0,ds0,p0,q0,hargs0,rfl,rfl,h0,r0⟩:=trodAll_cons hA;obtain⟨rfl,rfl,rfl⟩:=trodAll_nil r0;obtain rfl:args = #[v0]:=by cases args;simp_all
 obtain⟨rfl,rfl⟩:=trodVars_none hV;have k0:=hval 0 22 v0 rfl rfl;unfold Value.okWide at k0;rw[Tryz.underlying22] at k0;obtain⟨a0,_,rel0⟩:=one (Args.oBytes (enc:=enc) (w:=W)) (by cases v0<;>first|rfl|(simp[Cell.okWide,Cell.ok,Tryz.underlying22] at k0)) h0
 clear hA0 hval0;simp only[List.append_nil] at hW';refine ((Walk.sheDrafts a0).law ⟨_,Tryz.func3,by first|kernel_rfl|decide,rfl⟩ W (.cons _ _ _ _ rel0 .nil)).mono fun e W' ⟨he,hg⟩=>?_
 subst he;exact⟨_,rfl,qjL (T:=(· < Tryz.prog.types.size)) (pv:=[]) hW' rfl Args.kids Args.full (by rw[Tryz.params3];exact types) (fun _ _ _=>(trodAll_cons_mk (shut_bool Tryz.underlying4 _) trodAll_mk0)) (fun _=>rfl) hg⟩

theorem j0:(Rows.sheetDraftsRow.wf (OpenSpec.ofChange Rows.sheetDraftsSpec)&&laidOutB Tryz.prog&&mapsRowed Tryz.prog)=true:=by kernel_rfl
theorem j2:(Rows.sheetDraftsRow.inPlace==Tryz.prog.inPlace 3)=true:=by kernel_rfl
theorem j3:(Rows.sheetDraftsRow.unfollowed==Tryz.prog.unfollowed 3)=true:=by kernel_rfl
theorem j4:(Rows.sheetDraftsRow.recurses==Tryz.prog.recurses 3)=true:=by kernel_rfl
theorem j5:(Rows.sheetDraftsRow.named==Tryz.prog.varsNamed 3)=true:=by kernel_rfl
theorem j6:(Rows.sheetDraftsRow.plainKeys==Tryz.prog.plainKeys)=true:=by kernel_rfl
theorem j7:Tryz.prog.mayEnter=true:=by kernel_rfl
theorem j8:(Rows.sheetDraftsRow.lifted==Tryz.prog.liftsFinal)=true:=by kernel_rfl
theorem j9:Tryz.prog.stopsHeard=true:=by kernel_rfl
theorem closed:joinedFacts Tryz.prog 3 Tryz.f3 Rows.sheetDraftsSpec Rows.sheetDraftsRow=true:=by
 unfold joinedFacts;simp only[j0,j2,j3,j4,j5,j6,j7,j8,j9,Bool.and_true,Bool.true_and];kernel_rfl
theorem over:Rows.sheetDraftsRow.holds Tryz.pinned (OpenSpec.ofChange Rows.sheetDraftsSpec) :=
 OpenClaim.holds_of_wide 3 Tryz.f3 rfl rfl rfl rfl rfl rfl rfl ⟨rfl,rfl,rfl,rfl,rfl⟩ rfl rfl rfl rfl rfl (by kernel_rfl) Tryz.func3 closed
  (of_decide_eq_true (by kernel_rfl)) (by unfold Func.isWrapper;first|(rw[if_pos (by decide +kernel)];kernel_rfl)|(rw[if_neg (by decide +kernel)];exact⟨rfl,rfl⟩))
  (fun os started H enc _=>lifted os started H enc)

theorem p1:Rows.sheetDraftsRow.wfByText (OpenSpec.ofChange Rows.sheetDraftsSpec)=true:=by kernel_rfl
theorem p2:Tryz.prog.mainIs=some (true,"d5b2109e9042745fb1c32c7784d864c83fd8d4c6834f0c0bfc867066e03ed5da".toList):=by kernel_rfl
theorem p3:Tryz.prog.funcNamed Rows.sheetDraftsRow.func=some 3:=by kernel_rfl
theorem p4:true=Tryz.prog.looks []:=by kernel_rfl
theorem g0:Tryz.prog.funcs.toList.any Func.goes=false:=by kernel_rfl
theorem goes_no{P:Program}(h:P.funcs.toList.any Func.goes=false)(c:OpenClaim)(hs:(match c.start with | .entering=>true|_=>false)=true):false=c.goesBy P:=by
 have h1:∀g:Nat,(P.funcs[g]?).any Func.goes=false:=fun g=>by
  cases hg:P.funcs[g]? with
  | none=>rfl
  | some f =>
   have:=List.any_eq_false.1 h f (by simpa using Array.mem_of_getElem? hg);simpa using this
 have h2:P.funcs.any Func.goes=false:=by simpa using h
 have h3:∀f,P.goes f=false:=fun f=>by
  unfold Program.goes;rw[h2,Bool.and_false,Bool.or_false,List.any_eq_false];intro g _;simp[h1 g]
 unfold OpenClaim.goesBy Program.goesAt Program.goesFrom;split at hs
 ·rename_i e;rw[e];cases P.funcNamed c.func with
  | none=>rfl
  | some f=>simp[h3 f]
 ·cases hs
theorem p5:false=Rows.sheetDraftsRow.goesBy Tryz.prog:=goes_no g0 _ rfl
theorem p6:Tryz.pinned.checked.prog=Tryz.prog:=rfl
theorem proved:Rows.SheetDraftsCardSaid :=
 Claim7.holds_tied_plain_at .later [] [.data,.data,.data] true (true,"d5b2109e9042745fb1c32c7784d864c83fd8d4c6834f0c0bfc867066e03ed5da") true
  over (fun _ h=>by cases h) p1 (fun _ h=>by cases h) sheetDrafts_row_tie rfl ⟨rfl,rfl⟩ p2 rfl
  (fun f fn hf hfn=>by
   obtain rfl:f=3:=Option.some.inj (p3.symm.trans hf) |>.symm
   obtain rfl:fn=Tryz.f3:=(Option.some.inj (Tryz.func3.symm.trans hfn)).symm
   exact⟨p4,fun j t ht=>by
    rw[Tryz.params3] at ht;have hm:t ∈ [22]:=by simpa using Array.mem_of_getElem? ht
    have hall:([22].all fun u=>!Tryz.prog.wantsStandIn u)=true:=by kernel_rfl
    exact (show Tryz.prog.wantsStandIn t=false by simpa using List.all_eq_true.1 hall t hm)⟩)
  p5
#print axioms proved
end Go.Proofs.YtoekfdofbagoiaaGreatDoor.sheetDrafts
