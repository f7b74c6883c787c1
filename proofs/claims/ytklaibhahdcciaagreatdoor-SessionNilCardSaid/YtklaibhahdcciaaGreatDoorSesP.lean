/- For every input the law SessionNil answers true, and its arguments read as before. No condition. -/
import Derived.Test.YtklaibhahdcciaaGreatDoorSesT
import Derived.Test.YtklaibhahdcciaaGreatDoorArgsV
import Derived.Test.YtklaibhahdcciaaGreatDoorRows
import Derived.Test.YtklaibhahdcciaaGreatDoorCards
import Derived.Test.YtklaibhahdcciaaGreatDoorTieS
import Derived.LaidMore
import Derived.LaidHandle
import Derived.LaidLaws
import Derived.Lay
import Derived.MakeChecks
import Derived.SevenTiedAt
import Derived.Stop.Joined
import Derived.WalkKit
import Derived.ProofKit
import Derived.OpenShut
import Derived.ChangeMaps5
namespace Go.Proofs.YtklaibhahdcciaaGreatDoor.sessionNil
open Go.Kc Go.ChangeShapes Go.WideShapes Go.ChangeAt Go.RowKit Go.ChangeMaps

theorem types:∀t ∈ (#[9]:Array TypeId).toList,t<Tryz.prog.types.size:=by
 have h:((#[9]:Array TypeId).toList.all fun t=>decide (t<Tryz.prog.types.size))=true:=by kernel_rfl
 exact fun t ht=>of_decide_eq_true (List.all_eq_true.1 h t ht)
theorem own:ownKnob Tryz.prog.godebug=none:=by kernel_rfl
theorem hand:(Rows.sessionNilRow.laid.all fun x=>x.2.handleName?.isNone)=true:=by kernel_rfl
theorem lay1(os:Os):(World.holding Tryz.prog os ⟨#[],#[],[]⟩).layFits Tryz.prog Rows.sessionNilRow.laid []=true:=by kernel_rfl
theorem lay2(os:Os):(World.holding Tryz.prog os ⟨#[],#[],[]⟩).layIfaces Tryz.prog Rows.sessionNilRow.laid (World.laidAll Tryz.prog os Rows.sessionNilRow.laid)=true:=by kernel_rfl
theorem door_met(os:Os)(args:Array Value):laidMetH Tryz.prog Rows.sessionNilRow.laid ((World.laidAll Tryz.prog os Rows.sessionNilRow.laid).forCall (fun _ _=>0) ⟨#[],args,[]⟩).memory:=by
 rw[MakeChecks.laidMetH_plain _ _ _ hand];exact laidMet_laidAll _ (lay1 os) (lay2 os)
set_option maxRecDepth 100000 in
theorem lifted(os:Os)(started:os.Started)(H:Type)(enc:TypeId×Value->H) :
  ReturnsInHanded {} Tryz.checked os 3 .any (fun w args=>(Rows.sessionNilSpec.pre enc Tryz.prog Tryz.f3 [] false w args∧laidMetH Tryz.prog Rows.sessionNilRow.laid w)∧sizedMet enc Tryz.prog Tryz.f3 (OpenSpec.ofChange Rows.sessionNilSpec) false w args) (Rows.sessionNilSpec.post enc Tryz.prog Tryz.f3 false true false false):=by
 refine returnsInHanded_of_change_and (C:=Tryz.checked) (X:=fun w _=>laidMetH Tryz.prog Rows.sessionNilRow.laid w) (fun _ _ _ hh h=>h.of_heap hh) own started (by kernel_rfl) Tryz.func3
  (ChangeSpec.witness_shaped (enc:=enc) (C:=Tryz.checked) (os:=os) (X:=fun w _=>laidMetH Tryz.prog Rows.sessionNilRow.laid w) false (World.laidAll Tryz.prog os Rows.sessionNilRow.laid) #[.string ⟨#[]⟩] 8 (World.laidAll_os _ _ _) (World.shaped_of_ZipB (by kernel_rfl) (by kernel_rfl)) (by kernel_rfl) (by kernel_rfl) (by kernel_rfl) (door_met os _)) ?_
 intro W base args ds gs before hval0 hW hcnd _ hL _
 haveI:TabOk W:=Walk.tabsOk hL (by kernel_rfl)
 have hval:∀(j:Nat) t v,Tryz.f3.params[j]?=some t->args[j]?=some v->Value.okWide Tryz.prog W .any base t v:=hval0;have hW':=hW;obtain⟨p,q,hA0,hV,rfl,hfz,hnd⟩:=hW;have hA:DataW.TrodAll enc Tryz.prog W 0 (fun _=>true) true Tryz.f3.params.toList args.toList ds p:=hA0
 rw[Tryz.params3] at hA hval;obtain⟨v0,vs0,d0,ds0,p0,q0,hargs0,rfl,rfl,h0,r0⟩:=trodAll_cons hA;obtain⟨rfl,rfl,rfl⟩:=trodAll_nil r0;obtain rfl:args = #[v0]:=by cases args;simp_all
 obtain⟨rfl,rfl⟩:=trodVars_none hV;obtain⟨⟨⟨s0⟩⟩,rfl,rfl,rfl,w0⟩:=open_string Tryz.underlying9 (hval 0 9 v0 rfl rfl) h0;clear hA0 hval0;simp only[List.append_nil] at hW';refine ((Walk.sesNil s0).law ⟨_,Tryz.func3,by first|kernel_rfl|decide,rfl⟩ W (.cons _ _ _ _ (.s _) .nil)).mono fun e W' ⟨he,hg⟩=>?_
 subst he;exact⟨_,rfl,qiL (T:=(· < Tryz.prog.types.size)) (pv:=[]) hW' rfl Args.kids Args.full (by rw[Tryz.params3];exact types) (fun _ _ _=>(trodAll_cons_mk (shut_bool Tryz.underlying4 _) trodAll_mk0)) (fun _=>rfl) hg⟩

theorem j0:(Rows.sessionNilRow.wf (OpenSpec.ofChange Rows.sessionNilSpec)&&laidOutB Tryz.prog&&mapsRowed Tryz.prog)=true:=by kernel_rfl
theorem j2:(Rows.sessionNilRow.inPlace==Tryz.prog.inPlace 3)=true:=by kernel_rfl
theorem j3:(Rows.sessionNilRow.unfollowed==Tryz.prog.unfollowed 3)=true:=by kernel_rfl
theorem j4:(Rows.sessionNilRow.recurses==Tryz.prog.recurses 3)=true:=by kernel_rfl
theorem j5:(Rows.sessionNilRow.named==Tryz.prog.varsNamed 3)=true:=by kernel_rfl
theorem j6:(Rows.sessionNilRow.plainKeys==Tryz.prog.plainKeys)=true:=by kernel_rfl
theorem j7:Tryz.prog.mayEnter=true:=by kernel_rfl
theorem j8:(Rows.sessionNilRow.lifted==Tryz.prog.liftsFinal)=true:=by kernel_rfl
theorem j9:Tryz.prog.stopsHeard=true:=by kernel_rfl
theorem closed:joinedFacts Tryz.prog 3 Tryz.f3 Rows.sessionNilSpec Rows.sessionNilRow=true:=by
 unfold joinedFacts;simp only[j0,j2,j3,j4,j5,j6,j7,j8,j9,Bool.and_true,Bool.true_and];kernel_rfl
theorem over:Rows.sessionNilRow.holds Tryz.pinned (OpenSpec.ofChange Rows.sessionNilSpec) :=
 OpenClaim.holds_of_wide 3 Tryz.f3 rfl rfl rfl rfl rfl rfl rfl ⟨rfl,rfl,rfl,rfl,rfl⟩ rfl rfl rfl rfl rfl (by kernel_rfl) Tryz.func3 closed
  (of_decide_eq_true (by kernel_rfl)) (by unfold Func.isWrapper;first|(rw[if_pos (by decide +kernel)];kernel_rfl)|(rw[if_neg (by decide +kernel)];exact⟨rfl,rfl⟩))
  (fun os started H enc _=>lifted os started H enc)

theorem p1:Rows.sessionNilRow.wfByText (OpenSpec.ofChange Rows.sessionNilSpec)=true:=by kernel_rfl
theorem p2:Tryz.prog.mainIs=some (true,"eb96fcd4f178422167b27703a324b303355207daddd7b266c6a262846f8749e0".toList):=by kernel_rfl
theorem p3:Tryz.prog.funcNamed Rows.sessionNilRow.func=some 3:=by kernel_rfl
theorem p4:true=Tryz.prog.looks []:=by kernel_rfl
theorem g0:Tryz.prog.funcs.toList.any Func.goes=false:=by kernel_rfl
theorem goes_no{P:Program}(h:P.funcs.toList.any Func.goes=false)(c:OpenClaim)(hs:(match c.start with | .entering=>true|_=>false)=true):false=c.goesBy P:=by
 have h1:∀g:Nat,(P.funcs[g]?).any Func.goes=false:=fun g=>by
  cases hg:P.funcs[g]? with
  | none=>rfl
  | some f =>
   have:=List.any_eq_false.1 h f (by simpa using Array.mem_of_getElem? hg);simpa using this
 have h2:P.funcs.any Func.goes=false:=by simpa using h
 have h3:∀f,P.goes f=false:=fun f=>by
  unfold Program.goes;rw[h2,Bool.and_false,Bool.or_false,List.any_eq_false];intro g _;simp[h1 g]
 unfold OpenClaim.goesBy Program.goesAt Program.goesFrom;split at hs
 ·rename_i e;rw[e];cases P.funcNamed c.func with
  | none=>rfl
  | some f=>simp[h3 f]
 ·cases hs
theorem p5:false=Rows.sessionNilRow.goesBy Tryz.prog:=goes_no g0 _ rfl
theorem p6:Tryz.pinned.checked.prog=Tryz.prog:=rfl
theorem proved:Rows.SessionNilCardSaid :=
 Claim7.holds_tied_plain_at .later [] [.data,.data,.data,.pinned,.data,.sentinel,.sentinel,.pinned] true (true,"eb96fcd4f178422167b27703a324b303355207daddd7b266c6a262846f8749e0") true
  over (fun _ h=>by cases h) p1 (fun _ h=>by cases h) sessionNil_row_tie rfl ⟨rfl,rfl⟩ p2 rfl
  (fun f fn hf hfn=>by
   obtain rfl:f=3:=Option.some.inj (p3.symm.trans hf) |>.symm
   obtain rfl:fn=Tryz.f3:=(Option.some.inj (Tryz.func3.symm.trans hfn)).symm
   exact⟨p4,fun j t ht=>by
    rw[Tryz.params3] at ht;have hm:t ∈ [9]:=by simpa using Array.mem_of_getElem? ht
    have hall:([9].all fun u=>!Tryz.prog.wantsStandIn u)=true:=by kernel_rfl
    exact (show Tryz.prog.wantsStandIn t=false by simpa using List.all_eq_true.1 hall t hm)⟩)
  p5
#print axioms proved
end Go.Proofs.YtklaibhahdcciaaGreatDoor.sessionNil
