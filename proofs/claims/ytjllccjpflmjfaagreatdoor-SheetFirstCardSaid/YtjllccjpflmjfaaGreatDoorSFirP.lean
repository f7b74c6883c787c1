/- For every input the law SheetFirst answers true, and its arguments read as before. No condition. -/
import Derived.Test.YtjllccjpflmjfaaGreatDoorSheF
import Derived.Test.YtjllccjpflmjfaaGreatDoorArgsE
import Derived.Test.YtjllccjpflmjfaaGreatDoorRows
import Derived.Test.YtjllccjpflmjfaaGreatDoorCards
import Derived.Test.YtjllccjpflmjfaaGreatDoorTie
import Derived.LaidMore
import Derived.LaidHandle
import Derived.LaidLaws
import Derived.SevenTiedAt
import Derived.Stop.Joined
import Derived.WalkKit
import Derived.ProofKit
import Derived.OpenShut
import Derived.ChangeMaps5
namespace Go.Proofs.YtjllccjpflmjfaaGreatDoor.sheetFirst
open Go.Kc Go.ChangeShapes Go.WideShapes Go.ChangeAt Go.RowKit Go.ChangeMaps

theorem types:∀t ∈ (#[30,3]:Array TypeId).toList,t<Tryz.prog.types.size:=by
 have h:((#[30,3]:Array TypeId).toList.all fun t=>decide (t<Tryz.prog.types.size))=true:=by kernel_rfl
 exact fun t ht=>of_decide_eq_true (List.all_eq_true.1 h t ht)
theorem own:ownKnob Tryz.prog.godebug=none:=by kernel_rfl
theorem door_met(os:Os)(args:Array Value):laidMetH Tryz.prog Rows.sheetFirstRow.laid ((World.doorLaid Tryz.prog 4000 os).forCall (fun _ _=>0) ⟨#[],args,[]⟩).memory :=
 laidMetH_of_parts3 (fuel:=8) (laidMet_of_run' 8 (by kernel_rfl) (by kernel_rfl)) (by kernel_rfl) (by kernel_rfl)
set_option maxRecDepth 100000 in
theorem lifted(os:Os)(started:os.Started)(H:Type)(enc:TypeId×Value->H) :
  ReturnsInHanded {} Tryz.checked os 5 .any (fun w args=>(Rows.sheetFirstSpec.pre enc Tryz.prog Tryz.f5 [] false w args∧laidMetH Tryz.prog Rows.sheetFirstRow.laid w)∧sizedMet enc Tryz.prog Tryz.f5 (OpenSpec.ofChange Rows.sheetFirstSpec) false w args) (Rows.sheetFirstSpec.post enc Tryz.prog Tryz.f5 false true false false):=by
 refine returnsInHanded_of_change_and (C:=Tryz.checked) (X:=fun w _=>laidMetH Tryz.prog Rows.sheetFirstRow.laid w) (fun _ _ _ hh h=>h.of_heap hh) own started (by kernel_rfl) Tryz.func5
  (ChangeSpec.witness_shaped (enc:=enc) (C:=Tryz.checked) (os:=os) (X:=fun w _=>laidMetH Tryz.prog Rows.sheetFirstRow.laid w) false (World.doorLaid Tryz.prog 4000 os) #[.agg #[.slice none 0 0,.int .u8 0,.slice none 0 0,.int .u32 0,.int .u8 0,.slice none 0 0,.slice none 0 0,.int .u8 0,.int .u64 0,.bool false,.bool false,.bool false,.bool false],.int .i64 0] 8 rfl (World.shaped_of_RefB (by kernel_rfl) (by kernel_rfl)) (by kernel_rfl) (by kernel_rfl) (by kernel_rfl) (door_met os _)) ?_
 intro W base args ds gs before hval0 hW hcnd _ hL _
 haveI:TabOk W:=Walk.tabsOk hL (by kernel_rfl)
 have hval:∀(j:Nat) t v,Tryz.f5.params[j]?=some t->args[j]?=some v->Value.okWide Tryz.prog W .any base t v:=hval0;have hW':=hW;obtain⟨p,q,hA0,hV,rfl,hfz,hnd⟩:=hW;have hA:DataW.TrodAll enc Tryz.prog W 0 (fun _=>true) true Tryz.f5.params.toList args.toList ds p:=hA0
 rw[Tryz.params5] at hA hval;obtain⟨v0,vs0,d0,ds0,p0,q0,hargs0,rfl,rfl,h0,r0⟩:=trodAll_cons hA;obtain⟨v1,vs1,d1,ds1,p1,q1,hargs1,rfl,rfl,h1,r1⟩:=trodAll_cons r0;obtain⟨rfl,rfl,rfl⟩:=trodAll_nil r1;obtain rfl:args = #[v0,v1]:=by cases args;simp_all
 obtain⟨rfl,rfl⟩:=trodVars_none hV;have k0:=hval 0 30 v0 rfl rfl;unfold Value.okWide at k0;rw[Tryz.underlying30] at k0;obtain⟨c0,hc0,_⟩:=k0;obtain⟨a0,i0,rel0⟩:=(Args.oPol (enc:=enc) (w:=W)).agg ⟨c0,hc0⟩ h0;obtain⟨a1,rfl,rfl,rfl,w1⟩:=open_int Tryz.underlying3 (hval 1 3 v1 rfl rfl) h1;clear hA0 hval0;simp only[List.append_nil] at hW';refine ((Walk.sheFirst a0 a1 w1 i0).law ⟨_,Tryz.func5,by first|kernel_rfl|decide,rfl⟩ W (.cons _ _ _ _ rel0 (.cons _ _ _ _ (.i _ _) .nil))).mono fun e W' ⟨he,hg⟩=>?_
 subst he;exact⟨_,rfl,qCR (T:=(· < Tryz.prog.types.size)) (pv:=[]) hW' rfl Args.kids Args.full (by rw[Tryz.params5];exact types) (fun _ _ _=>(trodAll_cons_mk (shut_bool Tryz.underlying4 _) trodAll_mk0)) (fun _=>rfl) hg⟩

theorem j0:(Rows.sheetFirstRow.wf (OpenSpec.ofChange Rows.sheetFirstSpec)&&laidOutB Tryz.prog&&mapsRowed Tryz.prog)=true:=by kernel_rfl
theorem j2:(Rows.sheetFirstRow.inPlace==Tryz.prog.inPlace 5)=true:=by kernel_rfl
theorem j3:(Rows.sheetFirstRow.unfollowed==Tryz.prog.unfollowed 5)=true:=by kernel_rfl
theorem j4:(Rows.sheetFirstRow.recurses==Tryz.prog.recurses 5)=true:=by kernel_rfl
theorem j5:(Rows.sheetFirstRow.named==Tryz.prog.varsNamed 5)=true:=by kernel_rfl
theorem j6:(Rows.sheetFirstRow.plainKeys==Tryz.prog.plainKeys)=true:=by kernel_rfl
theorem j7:Tryz.prog.mayEnter=true:=by kernel_rfl
theorem j8:(Rows.sheetFirstRow.lifted==Tryz.prog.liftsFinal)=true:=by kernel_rfl
theorem j9:Tryz.prog.stopsHeard=true:=by kernel_rfl
theorem closed:joinedFacts Tryz.prog 5 Tryz.f5 Rows.sheetFirstSpec Rows.sheetFirstRow=true:=by
 unfold joinedFacts;simp only[j0,j2,j3,j4,j5,j6,j7,j8,j9,Bool.and_true,Bool.true_and];kernel_rfl
theorem over:Rows.sheetFirstRow.holds Tryz.pinned (OpenSpec.ofChange Rows.sheetFirstSpec) :=
 OpenClaim.holds_of_wide 5 Tryz.f5 rfl rfl rfl rfl rfl rfl rfl ⟨rfl,rfl,rfl,rfl,rfl⟩ rfl rfl rfl rfl rfl (by kernel_rfl) Tryz.func5 closed
  (of_decide_eq_true (by kernel_rfl)) (by unfold Func.isWrapper;first|(rw[if_pos (by decide +kernel)];kernel_rfl)|(rw[if_neg (by decide +kernel)];exact⟨rfl,rfl⟩))
  (fun os started H enc _=>lifted os started H enc)

theorem p1:Rows.sheetFirstRow.wfByText (OpenSpec.ofChange Rows.sheetFirstSpec)=true:=by kernel_rfl
theorem p2:Tryz.prog.mainIs=some (true,"ba1ba39e13e09902587cbcb93bfcedd0b71fe2eab5b4cbef442bdc64ecd1c0d1".toList):=by kernel_rfl
theorem p3:Tryz.prog.funcNamed Rows.sheetFirstRow.func=some 5:=by kernel_rfl
theorem p4:true=Tryz.prog.looks []:=by kernel_rfl
theorem g0:Tryz.prog.funcs.toList.any Func.goes=false:=by kernel_rfl
theorem goes_no{P:Program}(h:P.funcs.toList.any Func.goes=false)(c:OpenClaim)(hs:(match c.start with | .entering=>true|_=>false)=true):false=c.goesBy P:=by
 have h1:∀g:Nat,(P.funcs[g]?).any Func.goes=false:=fun g=>by
  cases hg:P.funcs[g]? with
  | none=>rfl
  | some f =>
   have:=List.any_eq_false.1 h f (by simpa using Array.mem_of_getElem? hg);simpa using this
 have h2:P.funcs.any Func.goes=false:=by simpa using h
 have h3:∀f,P.goes f=false:=fun f=>by
  unfold Program.goes;rw[h2,Bool.and_false,Bool.or_false,List.any_eq_false];intro g _;simp[h1 g]
 unfold OpenClaim.goesBy Program.goesAt Program.goesFrom;split at hs
 ·rename_i e;rw[e];cases P.funcNamed c.func with
  | none=>rfl
  | some f=>simp[h3 f]
 ·cases hs
theorem p5:false=Rows.sheetFirstRow.goesBy Tryz.prog:=goes_no g0 _ rfl
theorem p6:Tryz.pinned.checked.prog=Tryz.prog:=rfl
theorem proved:Rows.SheetFirstCardSaid :=
 Claim7.holds_tied_plain_at .later [] [.data,.data,.data] true (true,"ba1ba39e13e09902587cbcb93bfcedd0b71fe2eab5b4cbef442bdc64ecd1c0d1") true
  over (fun _ h=>by cases h) p1 (fun _ h=>by cases h) sheetFirst_row_tie rfl ⟨rfl,rfl⟩ p2 rfl
  (fun f fn hf hfn=>by
   obtain rfl:f=5:=Option.some.inj (p3.symm.trans hf) |>.symm
   obtain rfl:fn=Tryz.f5:=(Option.some.inj (Tryz.func5.symm.trans hfn)).symm
   exact⟨p4,fun j t ht=>by
    rw[Tryz.params5] at ht;have hm:t ∈ [30,3]:=by simpa using Array.mem_of_getElem? ht
    have hall:([30,3].all fun u=>!Tryz.prog.wantsStandIn u)=true:=by kernel_rfl
    exact (show Tryz.prog.wantsStandIn t=false by simpa using List.all_eq_true.1 hall t hm)⟩)
  p5
#print axioms proved
end Go.Proofs.YtjllccjpflmjfaaGreatDoor.sheetFirst
