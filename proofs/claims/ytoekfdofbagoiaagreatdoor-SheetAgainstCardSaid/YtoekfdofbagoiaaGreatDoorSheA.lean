/- For every input the law SheetAgainst answers true, and its arguments read as before. No condition. -/
import Derived.Test.YtoekfdofbagoiaaGreatDoorSheT
import Derived.Test.YtoekfdofbagoiaaGreatDoorArgsW
import Derived.Test.YtoekfdofbagoiaaGreatDoorRows
import Derived.Test.YtoekfdofbagoiaaGreatDoorCards
import Derived.Test.YtoekfdofbagoiaaGreatDoorTie
import Derived.LaidMore
import Derived.LaidHandle
import Derived.LaidLaws
import Derived.SevenTiedAt
import Derived.Stop.Joined
import Derived.WalkKit
import Derived.ProofKit
import Derived.OpenShut
import Derived.ChangeMaps5
namespace Go.Proofs.YtoekfdofbagoiaaGreatDoor.sheetAgainst
open Go.Kc Go.ChangeShapes Go.WideShapes Go.ChangeAt Go.RowKit Go.ChangeMaps

theorem types:∀t ∈ (#[29,29]:Array TypeId).toList,t<Tryz.prog.types.size:=by
 have h:((#[29,29]:Array TypeId).toList.all fun t=>decide (t<Tryz.prog.types.size))=true:=by kernel_rfl
 exact fun t ht=>of_decide_eq_true (List.all_eq_true.1 h t ht)
theorem one{H:Type}{enc:TypeId×Value->H}{w:World} [TabOk w]{α:Type}{P:Program}{t:TypeId}{I:α->Prop}{g:α->AV}(h:qaf enc P w t I (fun a=>[g a])){v:Value}(hv:v.cells = #[v]){d:DataW H}{p:List MemPlace}(hd:DataW.Trod enc P w 0 (fun _=>true) true t v d p):∃a,I a∧VR σ0 (ice w) (g a) v:=by
 obtain⟨fuel,hd⟩:=hd;rw[hv] at hd;obtain⟨a,h1,h2⟩:=h _ _ _ hd;cases h2 with
 | cons _ _ _ _ h2 _=>exact⟨a,h1,h2.vr⟩
theorem own:ownKnob Tryz.prog.godebug=none:=by kernel_rfl
theorem door_met(os:Os)(args:Array Value):laidMetH Tryz.prog Rows.sheetAgainstRow.laid ((World.doorLaid Tryz.prog 4000 os).forCall (fun _ _=>0) ⟨#[],args,[]⟩).memory :=
 laidMetH_of_parts3 (fuel:=8) (laidMet_of_run' 8 (by kernel_rfl) (by kernel_rfl)) (by kernel_rfl) (by kernel_rfl)
set_option maxRecDepth 100000 in
theorem lifted(os:Os)(started:os.Started)(H:Type)(enc:TypeId×Value->H) :
  ReturnsInHanded {} Tryz.checked os 4 .any (fun w args=>(Rows.sheetAgainstSpec.pre enc Tryz.prog Tryz.f4 [] false w args∧laidMetH Tryz.prog Rows.sheetAgainstRow.laid w)∧sizedMet enc Tryz.prog Tryz.f4 (OpenSpec.ofChange Rows.sheetAgainstSpec) false w args) (Rows.sheetAgainstSpec.post enc Tryz.prog Tryz.f4 false true false false):=by
 refine returnsInHanded_of_change_and (C:=Tryz.checked) (X:=fun w _=>laidMetH Tryz.prog Rows.sheetAgainstRow.laid w) (fun _ _ _ hh h=>h.of_heap hh) own started (by kernel_rfl) Tryz.func4
  (ChangeSpec.witness_shaped (enc:=enc) (C:=Tryz.checked) (os:=os) (X:=fun w _=>laidMetH Tryz.prog Rows.sheetAgainstRow.laid w) false (World.doorLaid Tryz.prog 4000 os) #[.slice none 0 0,.slice none 0 0] 8 rfl (World.shaped_of_RefB (by kernel_rfl) (by kernel_rfl)) (by kernel_rfl) (by kernel_rfl) (by kernel_rfl) (door_met os _)) ?_
 intro W base args ds gs before hval0 hW hcnd _ hL _
 haveI:TabOk W:=Walk.tabsOk hL (by kernel_rfl)
 have hval:∀(j:Nat) t v,Tryz.f4.params[j]?=some t->args[j]?=some v->Value.okWide Tryz.prog W .any base t v:=hval0;have hW':=hW;obtain⟨p,q,hA0,hV,rfl,hfz,hnd⟩:=hW;have hA:DataW.TrodAll enc Tryz.prog W 0 (fun _=>true) true Tryz.f4.params.toList args.toList ds p:=hA0
 rw[Tryz.params4] at hA hval;obtain⟨v0,vs0,d0,ds0,p0,q0,hargs0,rfl,rfl,h0,r0⟩:=trodAll_cons hA;obtain⟨v1,vs1,d1,ds1,p1,q1,hargs1,rfl,rfl,h1,r1⟩:=trodAll_cons r0;obtain⟨rfl,rfl,rfl⟩:=trodAll_nil r1;obtain rfl:args = #[v0,v1]:=by cases args;simp_all
 obtain⟨rfl,rfl⟩:=trodVars_none hV;have k0:=hval 0 29 v0 rfl rfl;unfold Value.okWide at k0;rw[Tryz.underlying29] at k0;obtain⟨a0,_,rel0⟩:=one (Args.oStrs (enc:=enc) (w:=W)) (by cases v0<;>first|rfl|(simp[Cell.okWide,Cell.ok,Tryz.underlying29] at k0)) h0
 have k1:=hval 1 29 v1 rfl rfl;unfold Value.okWide at k1;rw[Tryz.underlying29] at k1;obtain⟨a1,_,rel1⟩:=one (Args.oStrs (enc:=enc) (w:=W)) (by cases v1<;>first|rfl|(simp[Cell.okWide,Cell.ok,Tryz.underlying29] at k1)) h1
 clear hA0 hval0;simp only[List.append_nil] at hW';refine ((Walk.sheAgainst a0 a1).law ⟨_,Tryz.func4,by first|kernel_rfl|decide,rfl⟩ W (.cons _ _ _ _ rel0 (.cons _ _ _ _ rel1 .nil))).mono fun e W' ⟨he,hg⟩=>?_
 subst he;exact⟨_,rfl,qjL (T:=(· < Tryz.prog.types.size)) (pv:=[]) hW' rfl Args.kids Args.full (by rw[Tryz.params4];exact types) (fun _ _ _=>(trodAll_cons_mk (shut_bool Tryz.underlying4 _) trodAll_mk0)) (fun _=>rfl) hg⟩

theorem j0:(Rows.sheetAgainstRow.wf (OpenSpec.ofChange Rows.sheetAgainstSpec)&&laidOutB Tryz.prog&&mapsRowed Tryz.prog)=true:=by kernel_rfl
theorem j2:(Rows.sheetAgainstRow.inPlace==Tryz.prog.inPlace 4)=true:=by kernel_rfl
theorem j3:(Rows.sheetAgainstRow.unfollowed==Tryz.prog.unfollowed 4)=true:=by kernel_rfl
theorem j4:(Rows.sheetAgainstRow.recurses==Tryz.prog.recurses 4)=true:=by kernel_rfl
theorem j5:(Rows.sheetAgainstRow.named==Tryz.prog.varsNamed 4)=true:=by kernel_rfl
theorem j6:(Rows.sheetAgainstRow.plainKeys==Tryz.prog.plainKeys)=true:=by kernel_rfl
theorem j7:Tryz.prog.mayEnter=true:=by kernel_rfl
theorem j8:(Rows.sheetAgainstRow.lifted==Tryz.prog.liftsFinal)=true:=by kernel_rfl
theorem j9:Tryz.prog.stopsHeard=true:=by kernel_rfl
theorem closed:joinedFacts Tryz.prog 4 Tryz.f4 Rows.sheetAgainstSpec Rows.sheetAgainstRow=true:=by
 unfold joinedFacts;simp only[j0,j2,j3,j4,j5,j6,j7,j8,j9,Bool.and_true,Bool.true_and];kernel_rfl
theorem over:Rows.sheetAgainstRow.holds Tryz.pinned (OpenSpec.ofChange Rows.sheetAgainstSpec) :=
 OpenClaim.holds_of_wide 4 Tryz.f4 rfl rfl rfl rfl rfl rfl rfl ⟨rfl,rfl,rfl,rfl,rfl⟩ rfl rfl rfl rfl rfl (by kernel_rfl) Tryz.func4 closed
  (of_decide_eq_true (by kernel_rfl)) (by unfold Func.isWrapper;first|(rw[if_pos (by decide +kernel)];kernel_rfl)|(rw[if_neg (by decide +kernel)];exact⟨rfl,rfl⟩))
  (fun os started H enc _=>lifted os started H enc)

theorem p1:Rows.sheetAgainstRow.wfByText (OpenSpec.ofChange Rows.sheetAgainstSpec)=true:=by kernel_rfl
theorem p2:Tryz.prog.mainIs=some (true,"d5b2109e9042745fb1c32c7784d864c83fd8d4c6834f0c0bfc867066e03ed5da".toList):=by kernel_rfl
theorem p3:Tryz.prog.funcNamed Rows.sheetAgainstRow.func=some 4:=by kernel_rfl
theorem p4:true=Tryz.prog.looks []:=by kernel_rfl
theorem g0:Tryz.prog.funcs.toList.any Func.goes=false:=by kernel_rfl
theorem goes_no{P:Program}(h:P.funcs.toList.any Func.goes=false)(c:OpenClaim)(hs:(match c.start with | .entering=>true|_=>false)=true):false=c.goesBy P:=by
 have h1:∀g:Nat,(P.funcs[g]?).any Func.goes=false:=fun g=>by
  cases hg:P.funcs[g]? with
  | none=>rfl
  | some f =>
   have:=List.any_eq_false.1 h f (by simpa using Array.mem_of_getElem? hg);simpa using this
 have h2:P.funcs.any Func.goes=false:=by simpa using h
 have h3:∀f,P.goes f=false:=fun f=>by
  unfold Program.goes;rw[h2,Bool.and_false,Bool.or_false,List.any_eq_false];intro g _;simp[h1 g]
 unfold OpenClaim.goesBy Program.goesAt Program.goesFrom;split at hs
 ·rename_i e;rw[e];cases P.funcNamed c.func with
  | none=>rfl
  | some f=>simp[h3 f]
 ·cases hs
theorem p5:false=Rows.sheetAgainstRow.goesBy Tryz.prog:=goes_no g0 _ rfl
theorem p6:Tryz.pinned.checked.prog=Tryz.prog:=rfl
theorem proved:Rows.SheetAgainstCardSaid :=
 Claim7.holds_tied_plain_at .later [] [.data,.data,.data] true (true,"d5b2109e9042745fb1c32c7784d864c83fd8d4c6834f0c0bfc867066e03ed5da") true
  over (fun _ h=>by cases h) p1 (fun _ h=>by cases h) sheetAgainst_row_tie rfl ⟨rfl,rfl⟩ p2 rfl
  (fun f fn hf hfn=>by
   obtain rfl:f=4:=Option.some.inj (p3.symm.trans hf) |>.symm
   obtain rfl:fn=Tryz.f4:=(Option.some.inj (Tryz.func4.symm.trans hfn)).symm
   exact⟨p4,fun j t ht=>by
    rw[Tryz.params4] at ht;have hm:t ∈ [29,29]:=by simpa using Array.mem_of_getElem? ht
    have hall:([29,29].all fun u=>!Tryz.prog.wantsStandIn u)=true:=by kernel_rfl
    exact (show Tryz.prog.wantsStandIn t=false by simpa using List.all_eq_true.1 hall t hm)⟩)
  p5
#print axioms proved
end Go.Proofs.YtoekfdofbagoiaaGreatDoor.sheetAgainst
