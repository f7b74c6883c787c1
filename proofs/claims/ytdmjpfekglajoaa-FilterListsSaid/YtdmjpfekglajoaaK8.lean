/- Part 8 of the abstract machine and of the functions' walks. Conditions: with each theorem. -/
import Derived.Test.YtdmjpfekglajoaaK7
set_option linter.unusedSimpArgs false
set_option linter.unusedVariables false
set_option linter.unnecessarySimpa false
section
/- What fold.Put and fold.Take answer. Condition: the functions' texts are these. -/
namespace Go.Kc
variable {P:Program} {f:Nat}
noncomputable def takeM (l:GList) (s:List UInt8):GList:=if mayM l = true then ⟨l.mode,l.calls.filter fun c=>!decide (c.name = s)⟩ else l
def cCop (P:Program) (f:Nat):Prop:=∀ l:GList,l.calls.length ≤ 100000 → Own P f [.agg (cList l)] (.agg [.i .u8 l.mode,.own 0 l.calls.length]) [.cells 2 true true (rC l.calls)]
def cMay (P:Program) (f:Nat):Prop:=∀ l:GList,l.calls.length ≤ 100000 → Pure P f [.agg (cList l)] (.b (mayM l))
def ir_fold_Take_c2 (f_fold_copied f_fold_May f_fold_Take_1 f_slices_DeleteFunc_api_Call_api_Call:Nat):ICode:=.seq (.seq (.reg false [⟨(some 7),.op (.loadN 2 (.t 2)),none⟩,
    ⟨(some 8),.callF f_fold_May [(.t 7)],none⟩])
  (.cond (.t 8) (.reg false [⟨(some 9),.op (.fAddr 1 (.t 2)),none⟩,
    ⟨(some 10),.op (.load1 (.t 9)),none⟩,
    ⟨(some 11),.op (.mkF f_fold_Take_1 [] [(.t 3)]),none⟩,
    ⟨(some 12),.callF f_slices_DeleteFunc_api_Call_api_Call [(.t 10),(.t 11)],none⟩,
    ⟨(some 13),.op (.fAddr 1 (.t 2)),none⟩,
    ⟨none,.op (.store 1 (.t 13) (.t 12)),none⟩]) (.skip)))
  (.seq (.reg false [⟨(some 14),.op (.loadN 2 (.t 2)),none⟩,
    ⟨none,.op (.store 2 (.t 4) (.t 14)),none⟩])
  (.ret))
def ir_fold_Take (f_fold_copied f_fold_May f_fold_Take_1 f_slices_DeleteFunc_api_Call_api_Call:Nat):IFn:=⟨[.cell 4 2 true],
  .seq (.reg false [⟨(some 2),.op (.box (.t 0)),none⟩,
    ⟨(some 3),.op (.box (.t 1)),none⟩,
    ⟨(some 4),.op (.alloc [.i .u8 0,.nils]),none⟩])
  (.seq (.reg false [⟨(some 5),.op (.loadN 2 (.t 2)),none⟩,
    ⟨(some 6),.callF f_fold_copied [(.t 5)],none⟩,
    ⟨none,.op (.store 2 (.t 2) (.t 6)),none⟩])
  (.cut (ir_fold_Take_c2 f_fold_copied f_fold_May f_fold_Take_1 f_slices_DeleteFunc_api_Call_api_Call)))⟩
theorem take_pure {g1 g2 g3 g4:Nat} (hc:chkFn P f (ir_fold_Take g1 g2 g3 g4) = true) (h1:cCop P g1) (h2:cMay P g2) (h3:∀ s c,Pure P g3 [.agg (cCall c),.pf [.s s] 0] (.b (decide (c.name = s)))) (h4:cDelete_call P g4) (l:GList) (s:List UInt8) (hl:l.calls.length ≤ 100000) :
    Pure P f [.agg (cList l),.s s] (.agg (cList (takeM l s))):=by
  refine Pure.mk hc rfl ?_
  simp only [ir_fold_Take,cList,argsT,H0,mkT,mkH,trL,List.length_cons,List.length_nil,Nat.reduceAdd,Nat.zero_add]
  simp only [↓vS,cvF_pc,vP,shb,shv,shvs,she_nil,she_cons,vC,vQ,Nat.reduceEqDiff,↓reduceIte,eq_self,Nat.reduceAdd,Nat.reduceMul,Nat.reduceSub,Nat.reduceLeDiff,Nat.reduceLT,defd,cellsOf,wr,packR,Int.reduceLE,Int.reduceLT,Int.reduceEq,Int.cast_ofNat_Int,Int.reduceToNat]
  refine (h1 l hl).sc ?_
  simp only [pushs_cons,pushs_nil,push_mk,shb,shv,shvs,she_nil,she_cons,List.map_cons,List.map_nil,up_mk,down_mk,Nat.reduceAdd,Nat.zero_add]
  simp only [↓vS,cvF_pc,vP,shb,shv,shvs,she_nil,she_cons,vC,vQ,Nat.reduceEqDiff,↓reduceIte,eq_self,Nat.reduceAdd,Nat.reduceMul,Nat.reduceSub,Nat.reduceLeDiff,Nat.reduceLT,defd,cellsOf,wr,packR,Int.reduceLE,Int.reduceLT,Int.reduceEq,Int.cast_ofNat_Int,Int.reduceToNat]
  refine S.weak (Wk.mk [(2,.ptr 0 0),(3,.ptr 1 0),(4,.ptr 2 0)] [.cells 0 true false [.i .u8 l.mode,.own 3 l.calls.length],.cells 0 true false [.s s],.cells 0 true false [.i .u8 0,.nils],.cells 2 true true (rC l.calls)] [0,1,2,3] ?_ ?_ ?_ rfl) ?_
  · simp [vW,bw_map,mapAt_map,mapClo_it,mapClo_nil,mapClo_cons,vP,vZ,Tr.get_set]
  · simp [vW,bw_map,mapAt_map,mapClo_it,mapClo_nil,mapClo_cons,vP,vZ,Tr.get_set,nvs_self,rC_clos,shvs_clo rC_clos]
    try decide
  · simp [vW,bw_map,mapAt_map,mapClo_it,mapClo_nil,mapClo_cons,vP,vZ,Tr.get_set]
  refine S.weak (Wk.freeze 1 0 0 rfl rfl (Nat.zero_le _) (by simp)) ?_
  refine V_sound ?_
  simp only [ir_fold_Take_c2,argsT,H0,mkT,mkH,trL,List.length_cons,List.length_nil,Nat.reduceAdd,Nat.zero_add,fzv,fzvs,fzB,List.map_cons,List.map_nil,List.set_cons_zero,List.set_cons_succ,if_true,fzvs_clo rC_clos]
  simp only [↓vS,cvF_pc,vP,shb,shv,shvs,she_nil,she_cons,vC,vQ,Nat.reduceEqDiff,↓reduceIte,eq_self,Nat.reduceAdd,Nat.reduceMul,Nat.reduceSub,Nat.reduceLeDiff,Nat.reduceLT,defd,cellsOf,wr,packR,Int.reduceLE,Int.reduceLT,Int.reduceEq,Int.cast_ofNat_Int,Int.reduceToNat]
  refine (h2 l hl).lend (vs':=[.agg (cList l)]) ?_ rfl ?_
  · simp [vZ,vP,Tr.get_set,cList,frzs_self rC_clos]
    intro h0; rw [h0]; rfl
  cases hM:mayM l with
  | false =>
    have hw:takeM l s = l:=by unfold takeM; rw [hM]; rfl
    simp only [↓vS,cvF_pc,vP,shb,shv,shvs,she_nil,she_cons,vC,vQ,Nat.reduceEqDiff,↓reduceIte,eq_self,Nat.reduceAdd,Nat.reduceMul,Nat.reduceSub,Nat.reduceLeDiff,Nat.reduceLT,defd,cellsOf,wr,packR,Int.reduceLE,Int.reduceLT,Int.reduceEq,Int.cast_ofNat_Int,Int.reduceToNat]
    rw [hw]
    simp [vZ,vP,Tr.get_set,cList,frzs_self rC_clos]
    intro h0; rw [h0]; rfl
  | true =>
    have hw:takeM l s = ⟨l.mode,l.calls.filter fun c=>!decide (c.name = s)⟩:=by unfold takeM; rw [hM]; rfl
    simp only [↓vS,cvF_pc,vP,shb,shv,shvs,she_nil,she_cons,vC,vQ,Nat.reduceEqDiff,↓reduceIte,eq_self,Nat.reduceAdd,Nat.reduceMul,Nat.reduceSub,Nat.reduceLeDiff,Nat.reduceLT,defd,cellsOf,wr,packR,Int.reduceLE,Int.reduceLT,Int.reduceEq,Int.cast_ofNat_Int,Int.reduceToNat]
    refine (h4 (fun c=>decide (c.name = s)) g3 [] [.pf [.s s] 0] l.calls rfl rfl (by simp only [roomB]; omega) (fun c _=>h3 s c)).sc (vs:=[.own 0 l.calls.length,.fn g3 [] [.pf [.s s] 0]]) [3] (Lent.of (by decide) ?_) ?_
    · simp [lent_cons,lent_nil,pushs_cons,pushs_nil,push_mk,shb,shv,shvs,bnds,bnd,rnvs,rnv,gAt,vW,bw_map,mapAt_map,mapClo_it,mapClo_nil,mapClo_cons,vP,vZ,Tr.get_set,bnds_clo rC_clos,rnvs_clo rC_clos,shvs_clo rC_clos]
    simp only [backH,List.cons_append,List.nil_append,List.length_cons,List.length_nil,Nat.zero_add,Nat.reduceAdd,List.take_succ_cons,List.take_zero,List.drop_succ_cons,List.drop_zero,List.map_cons,List.map_nil,rnb,rnvs,rnv,gAt,Nat.reduceLT,↓reduceIte,List.getD_cons_zero,List.getD_cons_succ,Nat.reduceSub,puts_cons,puts_nil,pushs_cons,pushs_nil,hput_mk,push_mk,rnvs_clo rC_clos]
    simp only [↓vS,cvF_pc,vP,shb,shv,shvs,she_nil,she_cons,vC,vQ,Nat.reduceEqDiff,↓reduceIte,eq_self,Nat.reduceAdd,Nat.reduceMul,Nat.reduceSub,Nat.reduceLeDiff,Nat.reduceLT,defd,cellsOf,wr,packR,Int.reduceLE,Int.reduceLT,Int.reduceEq,Int.cast_ofNat_Int,Int.reduceToNat]
    rw [hw]
    simp [vZ,vP,Tr.get_set,frzs_self rC_clos]
    intro h0
    rw [List.filter_eq_nil_iff.2 (by simpa using h0)]
    rfl
noncomputable def putL (l:List GCall) (s:List UInt8) (n:Int):List GCall :=
  if (l[bsC l (fun c=>cmpB c.name s)]?).elim false (fun c=>decide (cmpB c.name s = 0)) = true then l.set (bsC l (fun c=>cmpB c.name s)) ⟨s,n⟩
  else l.take (bsC l (fun c=>cmpB c.name s)) ++ ⟨s,n⟩ :: l.drop (bsC l (fun c=>cmpB c.name s))
noncomputable def putM (l:GList) (s:List UInt8) (n:Int):GList:=if mayM l = true then ⟨l.mode,putL l.calls s n⟩ else l
def ir_fold_Put_c2 (f_fold_copied f_fold_May f_slices_BinarySearchFunc_api_Call_api_Call_string f_fold_Put_1 f_slices_Insert_api_Call_api_Call:Nat):ICode:=.seq (.seq (.reg false [⟨(some 12),.op (.loadN 2 (.t 3)),none⟩,
    ⟨(some 13),.callF f_fold_May [(.t 12)],none⟩,
    ⟨(some 14),.op (.un .not (.t 13)),none⟩])
  (.cond (.t 14) (.seq (.reg false [⟨(some 15),.op (.loadN 2 (.t 3)),none⟩,
    ⟨none,.op (.store 2 (.t 6) (.t 15)),none⟩])
  (.ret)) (.skip)))
  (.seq (.reg false [⟨(some 16),.op (.mov (.t 1)),none⟩,
    ⟨(some 17),.op (.mov (.t 2)),none⟩,
    ⟨(some 18),.op (.build [.s [],.i .u32 0] [(0,1,(.t 16)),(1,1,(.t 17))]),none⟩,
    ⟨(some 7),.op (.alloc [.s [],.i .u32 0]),none⟩,
    ⟨none,.op (.store 2 (.t 7) (.t 18)),none⟩])
  (.seq (.reg false [⟨(some 20),.op (.fAddr 1 (.t 3)),none⟩,
    ⟨(some 21),.op (.load1 (.t 20)),none⟩,
    ⟨(some 22),.op (.mov (.t 1)),none⟩,
    ⟨(some 23),.callF f_slices_BinarySearchFunc_api_Call_api_Call_string [(.t 21),(.t 22),(.c (.fn f_fold_Put_1 [] []))],none⟩,
    ⟨(some 19),.op (.mov (.t 23)),none⟩,
    ⟨(some 24),.op (.ext (.t 19) 0),none⟩,
    ⟨(some 25),.op (.ext (.t 19) 1),none⟩,
    ⟨(some 8),.op (.mov (.t 24)),none⟩,
    ⟨(some 9),.op (.mov (.t 25)),none⟩])
  (.seq (.seq (.reg false [⟨(some 26),.op (.mov (.t 9)),none⟩])
  (.cond (.t 26) (.reg false [⟨(some 27),.op (.fAddr 1 (.t 3)),none⟩,
    ⟨(some 28),.op (.load1 (.t 27)),none⟩,
    ⟨(some 29),.op (.mov (.t 8)),none⟩,
    ⟨(some 30),.op (.loadN 2 (.t 7)),none⟩,
    ⟨(some 31),.op (.iAddrS 2 (.t 28) (.t 29)),none⟩,
    ⟨none,.op (.store 2 (.t 31) (.t 30)),none⟩]) (.reg false [⟨(some 32),.op (.fAddr 1 (.t 3)),none⟩,
    ⟨(some 33),.op (.load1 (.t 32)),none⟩,
    ⟨(some 34),.op (.mov (.t 8)),none⟩,
    ⟨(some 35),.op (.loadN 2 (.t 7)),none⟩,
    ⟨(some 36),.op (.buildS 1 [.s [],.i .u32 0] [(0,2,(.t 35))]),none⟩,
    ⟨(some 37),.callF f_slices_Insert_api_Call_api_Call [(.t 33),(.t 34),(.t 36)],none⟩,
    ⟨(some 38),.op (.fAddr 1 (.t 3)),none⟩,
    ⟨none,.op (.store 1 (.t 38) (.t 37)),none⟩])))
  (.seq (.reg false [⟨(some 39),.op (.loadN 2 (.t 3)),none⟩,
    ⟨none,.op (.store 2 (.t 6) (.t 39)),none⟩])
  (.ret)))))
def ir_fold_Put (f_fold_copied f_fold_May f_slices_BinarySearchFunc_api_Call_api_Call_string f_fold_Put_1 f_slices_Insert_api_Call_api_Call:Nat):IFn:=⟨[.cell 6 2 true],
  .seq (.reg false [⟨(some 3),.op (.box (.t 0)),none⟩,
    ⟨(some 6),.op (.alloc [.i .u8 0,.nils]),none⟩])
  (.seq (.reg false [⟨(some 10),.op (.loadN 2 (.t 3)),none⟩,
    ⟨(some 11),.callF f_fold_copied [(.t 10)],none⟩,
    ⟨none,.op (.store 2 (.t 3) (.t 11)),none⟩])
  (.cut (ir_fold_Put_c2 f_fold_copied f_fold_May f_slices_BinarySearchFunc_api_Call_api_Call_string f_fold_Put_1 f_slices_Insert_api_Call_api_Call)))⟩
theorem put_pure {g1 g2 g3 g4 g5:Nat} (hc:chkFn P f (ir_fold_Put g1 g2 g3 g4 g5) = true) (h1:cCop P g1) (h2:cMay P g2) (h3:cBsF P g3) (h4:∀ (c:GCall) (s:List UInt8),Pure P g4 [.agg (cCall c),.s s] (.i .i64 (cmpB c.name s))) (h5:cInsert 2 24 P g5) (l:GList) (s:List UInt8) (n:Int) (hl:l.calls.length ≤ 100000) :
    Pure P f [.agg (cList l),.s s,.i .u32 n] (.agg (cList (putM l s n))):=by
  refine Pure.mk hc rfl ?_
  simp only [ir_fold_Put,cList,argsT,H0,mkT,mkH,trL,List.length_cons,List.length_nil,Nat.reduceAdd,Nat.zero_add]
  simp only [↓vS,cvF_pc,vP,shb,shv,shvs,she_nil,she_cons,vC,vQ,Nat.reduceEqDiff,↓reduceIte,eq_self,Nat.reduceAdd,Nat.reduceMul,Nat.reduceSub,Nat.reduceLeDiff,Nat.reduceLT,defd,cellsOf,wr,packR,Int.reduceLE,Int.reduceLT,Int.reduceEq,Int.cast_ofNat_Int,Int.reduceToNat]
  refine (h1 l hl).sc ?_
  simp only [pushs_cons,pushs_nil,push_mk,shb,shv,shvs,she_nil,she_cons,List.map_cons,List.map_nil,up_mk,down_mk,Nat.reduceAdd,Nat.zero_add]
  simp only [↓vS,cvF_pc,vP,shb,shv,shvs,she_nil,she_cons,vC,vQ,Nat.reduceEqDiff,↓reduceIte,eq_self,Nat.reduceAdd,Nat.reduceMul,Nat.reduceSub,Nat.reduceLeDiff,Nat.reduceLT,defd,cellsOf,wr,packR,Int.reduceLE,Int.reduceLT,Int.reduceEq,Int.cast_ofNat_Int,Int.reduceToNat]
  refine S.weak (Wk.mk [(1,.s s),(2,.i .u32 n),(3,.ptr 0 0),(6,.ptr 1 0)] [.cells 0 true false [.i .u8 l.mode,.own 2 l.calls.length],.cells 0 true false [.i .u8 0,.nils],.cells 2 true true (rC l.calls)] [0,1,2] ?_ ?_ ?_ rfl) (V_sound ?_)
  · simp [vW,bw_map,mapAt_map,mapClo_it,mapClo_nil,mapClo_cons,vP,vZ,Tr.get_set]
  · simp [vW,bw_map,mapAt_map,mapClo_it,mapClo_nil,mapClo_cons,vP,vZ,Tr.get_set,nvs_self,rC_clos,shvs_clo rC_clos]
    try decide
  · simp [vW,bw_map,mapAt_map,mapClo_it,mapClo_nil,mapClo_cons,vP,vZ,Tr.get_set]
  simp only [ir_fold_Put_c2,argsT,H0,mkT,mkH,trL,List.length_cons,List.length_nil,Nat.reduceAdd,Nat.zero_add]
  simp only [↓vS,cvF_pc,vP,shb,shv,shvs,she_nil,she_cons,vC,vQ,Nat.reduceEqDiff,↓reduceIte,eq_self,Nat.reduceAdd,Nat.reduceMul,Nat.reduceSub,Nat.reduceLeDiff,Nat.reduceLT,defd,cellsOf,wr,packR,Int.reduceLE,Int.reduceLT,Int.reduceEq,Int.cast_ofNat_Int,Int.reduceToNat]
  refine (h2 l hl).lend (vs':=[.agg (cList l)]) ?_ rfl ?_
  · simp [vZ,vP,Tr.get_set,cList,frzs_self rC_clos]
    intro h0; rw [h0]; rfl
  cases hM:mayM l with
  | false =>
    have hw:putM l s n = l:=by unfold putM; rw [hM]; rfl
    simp only [↓vS,cvF_pc,vP,shb,shv,shvs,she_nil,she_cons,vC,vQ,Nat.reduceEqDiff,↓reduceIte,eq_self,Nat.reduceAdd,Nat.reduceMul,Nat.reduceSub,Nat.reduceLeDiff,Nat.reduceLT,defd,cellsOf,wr,packR,Int.reduceLE,Int.reduceLT,Int.reduceEq,Int.cast_ofNat_Int,Int.reduceToNat]
    rw [hw]
    simp [vZ,vP,Tr.get_set,cList,frzs_self rC_clos]
    intro h0; rw [h0]; rfl
  | true =>
    have hw:putM l s n = ⟨l.mode,putL l.calls s n⟩:=by unfold putM; rw [hM]; rfl
    have hb:=bsC_le l.calls (fun c=>cmpB c.name s)
    simp only [↓vS,cvF_pc,vP,shb,shv,shvs,she_nil,she_cons,vC,vQ,Nat.reduceEqDiff,↓reduceIte,eq_self,Nat.reduceAdd,Nat.reduceMul,Nat.reduceSub,Nat.reduceLeDiff,Nat.reduceLT,defd,cellsOf,wr,packR,Int.reduceLE,Int.reduceLT,Int.reduceEq,Int.cast_ofNat_Int,Int.reduceToNat]
    refine (h3 l.calls s g4 (fun c=>cmpB c.name s) (by simp only [roomB]; omega) (fun c _=>h4 c s)).lend (vs':=[.fz l.calls.length (rC l.calls),.s s,.fn g4 [] []]) ?_ rfl ?_
    · simp [vZ,vP,Tr.get_set,frzs_self rC_clos]
      intro h0; rw [h0]; rfl
    rw [hw]
    cases hfd:(l.calls[bsC l.calls (fun c=>cmpB c.name s)]?).elim false (fun c=>decide (cmpB c.name s = 0)) with
    | true =>
      have hp:putL l.calls s n = l.calls.set (bsC l.calls (fun c=>cmpB c.name s)) ⟨s,n⟩:=if_pos hfd
      have hlt:bsC l.calls (fun c=>cmpB c.name s) < l.calls.length:=by
        rcases Nat.lt_or_ge (bsC l.calls (fun c=>cmpB c.name s)) l.calls.length with h | h
        · exact h
        · rw [List.getElem?_eq_none h] at hfd; cases hfd
      have hbd:=rC_bound hlt
      have hset:rC (l.calls.set (bsC l.calls (fun c=>cmpB c.name s)) ⟨s,n⟩) = (rC l.calls).take (bsC l.calls (fun c=>cmpB c.name s) * 2) ++ (AV.s s :: AV.i .u32 n :: (rC l.calls).drop (bsC l.calls (fun c=>cmpB c.name s) * 2 + 2)):=by
        have e2:bsC l.calls (fun c=>cmpB c.name s) * 2 + 2 = (bsC l.calls (fun c=>cmpB c.name s) + 1) * 2:=by omega
        rw [e2,rC_take,rC_drop,List.set_eq_take_append_cons_drop,if_pos hlt,← rC_app,rC_cons] <;> rfl
      simp only [↓vS,cvF_pc,vP,shb,shv,shvs,she_nil,she_cons,vC,vQ,Nat.reduceEqDiff,↓reduceIte,eq_self,Nat.reduceAdd,Nat.reduceMul,Nat.reduceSub,Nat.reduceLeDiff,Nat.reduceLT,defd,cellsOf,wr,packR,Int.reduceLE,Int.reduceLT,Int.reduceEq,Int.cast_ofNat_Int,Int.reduceToNat,hlt,hbd]
      rw [hp]
      simp only [← hset]
      simp [vZ,vP,Tr.get_set,frzs_self rC_clos]
      intro h0; rw [h0] at hlt; simp at hlt
    | false =>
      have hp:putL l.calls s n = l.calls.take (bsC l.calls (fun c=>cmpB c.name s)) ++ ⟨s,n⟩ :: l.calls.drop (bsC l.calls (fun c=>cmpB c.name s)):=if_neg (by rw [hfd]; decide)
      simp only [↓vS,cvF_pc,vP,shb,shv,shvs,she_nil,she_cons,vC,vQ,Nat.reduceEqDiff,↓reduceIte,eq_self,Nat.reduceAdd,Nat.reduceMul,Nat.reduceSub,Nat.reduceLeDiff,Nat.reduceLT,defd,cellsOf,wr,packR,Int.reduceLE,Int.reduceLT,Int.reduceEq,Int.cast_ofNat_Int,Int.reduceToNat]
      refine (h5 l.calls.length (bsC l.calls (fun c=>cmpB c.name s)) (rC l.calls) [.s s,.i .u32 n] (by rw [rC_len]) rfl rC_clos rfl rC_ok rfl hb (by simp only [roomB]; omega) (by simp only [roomB]; omega)).sc (vs:=[.own 0 l.calls.length,.i .i64 (bsC l.calls (fun c=>cmpB c.name s):Int),.sl 1 0 1 1 false]) [2,4] (Lent.of (by decide) ?_) ?_
      · simp [lent_cons,lent_nil,pushs_cons,pushs_nil,push_mk,shb,shv,shvs,bnds,bnd,rnvs,rnv,gAt,vW,bw_map,mapAt_map,mapClo_it,mapClo_nil,mapClo_cons,vP,vZ,Tr.get_set,bnds_clo rC_clos,rnvs_clo rC_clos]
      have hT:rC (putL l.calls s n) = (rC l.calls).take (bsC l.calls (fun c=>cmpB c.name s) * 2) ++ ([.s s,.i .u32 n] ++ (rC l.calls).drop (bsC l.calls (fun c=>cmpB c.name s) * 2)):=by
        rw [hp,← rC_app,rC_cons,rC_take,rC_drop]; rfl
      have hL:(putL l.calls s n).length = l.calls.length + 1:=by
        rw [hp]; simp; omega
      simp only [← hT]
      simp only [backH,List.cons_append,List.nil_append,List.length_cons,List.length_nil,Nat.zero_add,Nat.reduceAdd,List.take_succ_cons,List.take_zero,List.drop_succ_cons,List.drop_zero,List.map_cons,List.map_nil,rnb,rnvs,rnv,gAt,Nat.reduceLT,↓reduceIte,List.getD_cons_zero,List.getD_cons_succ,Nat.reduceSub,puts_cons,puts_nil,pushs_cons,pushs_nil,hput_mk,push_mk,rnvs_clo rC_clos]
      simp only [↓vS,cvF_pc,vP,shb,shv,shvs,she_nil,she_cons,vC,vQ,Nat.reduceEqDiff,↓reduceIte,eq_self,Nat.reduceAdd,Nat.reduceMul,Nat.reduceSub,Nat.reduceLeDiff,Nat.reduceLT,defd,cellsOf,wr,packR,Int.reduceLE,Int.reduceLT,Int.reduceEq,Int.cast_ofNat_Int,Int.reduceToNat]
      simp [vZ,vP,Tr.get_set,frzs_self rC_clos,hL]
end Go.Kc
end
section
/- What a list's lines are read by: fold.ins, values.Read. Condition: the functions' texts are these. -/
namespace Go.Kc
variable {P:Program} {f:Nat}
def ir_fold_ins:IFn:=⟨[.cell 0 4 true],
  .seq (.reg false [⟨(some 0),.op (.alloc [.b false,.b false,.b false,.b false]),none⟩])
  (.seq (.reg false [⟨(some 1),.op (.build [.b false,.b false] [(0,1,(.c (.b true))),(1,1,(.c (.b false)))]),none⟩,
    ⟨(some 2),.op (.build [.b false,.b false] [(0,1,(.c (.b false))),(1,1,(.c (.b true)))]),none⟩,
    ⟨(some 3),.op (.build [.b false,.b false,.b false,.b false] [(0,2,(.t 1)),(2,2,(.t 2))]),none⟩,
    ⟨none,.op (.store 4 (.t 0) (.t 3)),none⟩])
  (.ret))⟩
theorem ins_pure (hc:chkFn P f ir_fold_ins = true):Pure P f [] (.agg [.b true,.b false,.b false,.b true]):=by
  refine Pure.mk hc rfl ?_
  simp only [ir_fold_ins,argsT,H0,mkT,mkH,trL,List.length_cons,List.length_nil,Nat.reduceAdd,Nat.zero_add]
  simp only [↓vS,cvF_pc,vP,shb,shv,shvs,she_nil,she_cons,vC,vQ,Nat.reduceEqDiff,↓reduceIte,eq_self,Nat.reduceAdd,Nat.reduceMul,Nat.reduceSub,Nat.reduceLeDiff,Nat.reduceLT,defd,cellsOf,wr,packR,Int.reduceLE,Int.reduceLT,Int.reduceEq,Int.cast_ofNat_Int,Int.reduceToNat,vZ]
def ir_internal_stringslite_IndexByte (f_internal_bytealg_IndexByteString:Nat):IFn:=⟨[.tmp 4],
  .seq (.reg false [⟨(some 4),.op (.mov (.c (.i .i64 0))),none⟩])
  (.seq (.reg false [⟨(some 5),.op (.mov (.t 0)),none⟩,
    ⟨(some 6),.op (.mov (.t 1)),none⟩,
    ⟨(some 7),.callF f_internal_bytealg_IndexByteString [(.t 5),(.t 6)],none⟩,
    ⟨(some 4),.op (.mov (.t 7)),none⟩])
  (.ret))⟩
theorem indexByte_lite {g:Nat} (hc:chkFn P f (ir_internal_stringslite_IndexByte g) = true) (hg:∀ (a:List UInt8) (c:UInt8),Pure P g [.s a,.i .u8 (c.toNat:Int)] (.i .i64 (idxB c a 0))) (a:List UInt8) (c:UInt8):Pure P f [.s a,.i .u8 (c.toNat:Int)] (.i .i64 (idxB c a 0)):=by
  refine Pure.mk hc rfl ?_
  simp only [ir_internal_stringslite_IndexByte,argsT,H0,mkT,mkH,trL,List.length_cons,List.length_nil,Nat.reduceAdd,Nat.zero_add]
  simp only [↓vS,cvF_pc,vP,shb,shv,shvs,she_nil,she_cons,vC,vQ,Nat.reduceEqDiff,↓reduceIte,eq_self,Nat.reduceAdd,Nat.reduceMul,Nat.reduceSub,Nat.reduceLeDiff,Nat.reduceLT,defd,cellsOf,wr,packR,Int.reduceLE,Int.reduceLT,Int.reduceEq,Int.cast_ofNat_Int,Int.reduceToNat]
  refine (hg a c).sc ?_
  simp only [↓vS,cvF_pc,vP,shb,shv,shvs,she_nil,she_cons,vC,vQ,Nat.reduceEqDiff,↓reduceIte,eq_self,Nat.reduceAdd,Nat.reduceMul,Nat.reduceSub,Nat.reduceLeDiff,Nat.reduceLT,defd,cellsOf,wr,packR,Int.reduceLE,Int.reduceLT,Int.reduceEq,Int.cast_ofNat_Int,Int.reduceToNat,vZ]
theorem idxB_range (c:UInt8):∀ (a:List UInt8) (j:Nat),idxB c a j = -1 ∨ ∃ i:Nat,idxB c a j = ((j + i:Nat):Int) ∧ i < a.length
  | [],j=>.inl rfl
  | x :: xs,j=>by
    unfold idxB
    split
    · exact .inr ⟨0,rfl,by simp⟩
    · rcases idxB_range c xs (j + 1) with h | ⟨i,h,hi⟩
      · exact .inl h
      · exact .inr ⟨i + 1,by rw [h]; omega,by simp; omega⟩
def ir_internal_stringslite_Index (f_internal_stringslite_IndexByte f_internal_bytealg_IndexString f_internal_bytealg_Cutover f_internal_bytealg_IndexRabinKarp_string:Nat):IFn:=⟨[.tmp 4],
  .seq (.reg false [⟨(some 4),.op (.mov (.c (.i .i64 0))),none⟩])
  (.seq (.reg false [⟨(some 14),.op (.mov (.t 1)),none⟩,
    ⟨(some 15),.op (.len true (.t 14)),none⟩,
    ⟨(some 5),.op (.mov (.t 15)),none⟩])
  (.seq (.blk 0 (.seq (.reg false [⟨(some 17),.op (.mov (.t 5)),none⟩,
    ⟨(some 18),.op (.bin .eql (.t 17) (.c (.i .i64 0))),none⟩,
    ⟨(some 19),.op (.mov (.t 18)),none⟩,
    ⟨(some 20),.op (.mov (.t 1)),(some (19,false))⟩,
    ⟨(some 21),.op (.mov (.t 0)),(some (19,false))⟩,
    ⟨(some 22),.op (.bin .eql (.t 20) (.t 21)),(some (19,false))⟩,
    ⟨(some 23),.op (.pick (.t 19) (.c (.b true)) (.t 22)),none⟩,
    ⟨(some 16),.op (.mov (.t 23)),none⟩])
  (.cond (.t 16) (.seq (.reg false [⟨(some 4),.op (.mov (.c (.i .i64 0))),none⟩])
  (.ret)) (.seq (.reg false [⟨(some 25),.op (.mov (.t 5)),none⟩,
    ⟨(some 26),.op (.bin .eql (.t 25) (.c (.i .i64 1))),none⟩,
    ⟨(some 24),.op (.mov (.t 26)),none⟩])
  (.cond (.t 24) (.seq (.reg false [⟨(some 27),.op (.mov (.t 0)),none⟩,
    ⟨(some 28),.op (.mov (.t 1)),none⟩,
    ⟨(some 29),.op (.idxS (.t 28) (.c (.i .i64 0))),none⟩,
    ⟨(some 30),.callF f_internal_stringslite_IndexByte [(.t 27),(.t 29)],none⟩,
    ⟨(some 4),.op (.mov (.t 30)),none⟩])
  (.ret)) (.seq (.reg false [⟨(some 32),.op (.mov (.t 5)),none⟩,
    ⟨(some 33),.op (.mov (.t 0)),none⟩,
    ⟨(some 34),.op (.len true (.t 33)),none⟩,
    ⟨(some 35),.op (.bin .geq (.t 32) (.t 34)),none⟩,
    ⟨(some 31),.op (.mov (.t 35)),none⟩])
  (.cond (.t 31) (.seq (.reg false [⟨(some 4),.op (.mov (.c (.i .i64 (-1)))),none⟩])
  (.ret)) (.seq (.reg false [⟨(some 37),.op (.mov (.t 5)),none⟩,
    ⟨(some 38),.op (.no),none⟩,
    ⟨(some 39),.op (.bin .leq (.t 37) (.t 38)),none⟩,
    ⟨(some 40),.op (.mov (.t 39)),none⟩,
    ⟨(some 41),.op (.mov (.t 0)),(some (40,true))⟩,
    ⟨(some 42),.op (.len true (.t 41)),(some (40,true))⟩,
    ⟨(some 43),.op (.bin .leq (.t 42) (.c (.i .i64 64))),(some (40,true))⟩,
    ⟨(some 44),.op (.pick (.t 40) (.t 43) (.c (.b false))),none⟩,
    ⟨(some 36),.op (.mov (.t 44)),none⟩])
  (.cond (.t 36) (.seq (.reg false [⟨(some 45),.op (.mov (.t 0)),none⟩,
    ⟨(some 46),.op (.mov (.t 1)),none⟩,
    ⟨(some 47),.callF f_internal_bytealg_IndexString [(.t 45),(.t 46)],none⟩,
    ⟨(some 4),.op (.mov (.t 47)),none⟩])
  (.ret)) (.skip))))))))))
  (.seq (.reg false [⟨(some 48),.op (.mov (.t 1)),none⟩,
    ⟨(some 49),.op (.idxS (.t 48) (.c (.i .i64 0))),none⟩,
    ⟨(some 6),.op (.mov (.t 49)),none⟩])
  (.seq (.reg false [⟨(some 50),.op (.mov (.t 1)),none⟩,
    ⟨(some 51),.op (.idxS (.t 50) (.c (.i .i64 1))),none⟩,
    ⟨(some 7),.op (.mov (.t 51)),none⟩])
  (.seq (.reg false [⟨(some 8),.op (.mov (.c (.i .i64 0))),none⟩])
  (.seq (.reg false [⟨(some 52),.op (.mov (.t 0)),none⟩,
    ⟨(some 53),.op (.len true (.t 52)),none⟩,
    ⟨(some 54),.op (.mov (.t 5)),none⟩,
    ⟨(some 55),.op (.bin .sub (.t 53) (.t 54)),none⟩,
    ⟨(some 56),.op (.bin .add (.t 55) (.c (.i .i64 1))),none⟩,
    ⟨(some 9),.op (.mov (.t 56)),none⟩])
  (.seq (.reg false [⟨(some 10),.op (.mov (.c (.i .i64 0))),none⟩])
  (.seq (.blk 1 (.loop (.seq (.seq (.reg false [⟨(some 57),.op (.mov (.t 8)),none⟩,
    ⟨(some 58),.op (.mov (.t 9)),none⟩,
    ⟨(some 59),.op (.bin .lss (.t 57) (.t 58)),none⟩])
  (.cond (.t 59) (.skip) (.exit 1)))
  (.blk 2 (.seq (.seq (.reg false [⟨(some 60),.op (.mov (.t 0)),none⟩,
    ⟨(some 61),.op (.mov (.t 8)),none⟩,
    ⟨(some 62),.op (.idxS (.t 60) (.t 61)),none⟩,
    ⟨(some 63),.op (.mov (.t 6)),none⟩,
    ⟨(some 64),.op (.bin .neq (.t 62) (.t 63)),none⟩])
  (.cond (.t 64) (.seq (.reg false [⟨(some 65),.op (.mov (.t 0)),none⟩,
    ⟨(some 66),.op (.mov (.t 8)),none⟩,
    ⟨(some 67),.op (.bin .add (.t 66) (.c (.i .i64 1))),none⟩,
    ⟨(some 68),.op (.mov (.t 9)),none⟩,
    ⟨(some 69),.op (.slcStr (.t 65) (some (.t 67)) (some (.t 68))),none⟩,
    ⟨(some 70),.op (.mov (.t 6)),none⟩,
    ⟨(some 71),.callF f_internal_stringslite_IndexByte [(.t 69),(.t 70)],none⟩,
    ⟨(some 11),.op (.mov (.t 71)),none⟩])
  (.seq (.seq (.reg false [⟨(some 72),.op (.mov (.t 11)),none⟩,
    ⟨(some 73),.op (.bin .lss (.t 72) (.c (.i .i64 0))),none⟩])
  (.cond (.t 73) (.seq (.reg false [⟨(some 4),.op (.mov (.c (.i .i64 (-1)))),none⟩])
  (.ret)) (.skip)))
  (.reg false [⟨(some 74),.op (.mov (.t 8)),none⟩,
    ⟨(some 75),.op (.mov (.t 11)),none⟩,
    ⟨(some 76),.op (.bin .add (.t 75) (.c (.i .i64 1))),none⟩,
    ⟨(some 77),.op (.bin .add (.t 74) (.t 76)),none⟩,
    ⟨(some 8),.op (.mov (.t 77)),none⟩]))) (.skip)))
  (.seq (.seq (.reg false [⟨(some 78),.op (.mov (.t 0)),none⟩,
    ⟨(some 79),.op (.mov (.t 8)),none⟩,
    ⟨(some 80),.op (.bin .add (.t 79) (.c (.i .i64 1))),none⟩,
    ⟨(some 81),.op (.idxS (.t 78) (.t 80)),none⟩,
    ⟨(some 82),.op (.mov (.t 7)),none⟩,
    ⟨(some 83),.op (.bin .eql (.t 81) (.t 82)),none⟩,
    ⟨(some 84),.op (.mov (.t 83)),none⟩,
    ⟨(some 85),.op (.mov (.t 0)),(some (84,true))⟩,
    ⟨(some 86),.op (.mov (.t 8)),(some (84,true))⟩,
    ⟨(some 87),.op (.mov (.t 8)),(some (84,true))⟩,
    ⟨(some 88),.op (.mov (.t 5)),(some (84,true))⟩,
    ⟨(some 89),.op (.bin .add (.t 87) (.t 88)),(some (84,true))⟩,
    ⟨(some 90),.op (.slcStr (.t 85) (some (.t 86)) (some (.t 89))),(some (84,true))⟩,
    ⟨(some 91),.op (.mov (.t 1)),(some (84,true))⟩,
    ⟨(some 92),.op (.bin .eql (.t 90) (.t 91)),(some (84,true))⟩,
    ⟨(some 93),.op (.pick (.t 84) (.t 92) (.c (.b false))),none⟩])
  (.cond (.t 93) (.seq (.reg false [⟨(some 94),.op (.mov (.t 8)),none⟩,
    ⟨(some 4),.op (.mov (.t 94)),none⟩])
  (.ret)) (.skip)))
  (.seq (.reg false [⟨(some 95),.op (.mov (.t 8)),none⟩,
    ⟨(some 96),.op (.bin .add (.t 95) (.c (.i .i64 1))),none⟩,
    ⟨(some 8),.op (.mov (.t 96)),none⟩])
  (.seq (.reg false [⟨(some 97),.op (.mov (.t 10)),none⟩,
    ⟨(some 98),.op (.bin .add (.t 97) (.c (.i .i64 1))),none⟩,
    ⟨(some 10),.op (.mov (.t 98)),none⟩])
  (.seq (.reg false [⟨(some 99),.op (.mov (.t 5)),none⟩,
    ⟨(some 100),.op (.no),none⟩,
    ⟨(some 101),.op (.bin .leq (.t 99) (.t 100)),none⟩,
    ⟨(some 102),.op (.mov (.t 101)),none⟩,
    ⟨(some 103),.op (.mov (.t 10)),(some (102,true))⟩,
    ⟨(some 104),.op (.mov (.t 8)),(some (102,true))⟩,
    ⟨(some 105),.callF f_internal_bytealg_Cutover [(.t 104)],(some (102,true))⟩,
    ⟨(some 106),.op (.bin .gtr (.t 103) (.t 105)),(some (102,true))⟩,
    ⟨(some 107),.op (.pick (.t 102) (.t 106) (.c (.b false))),none⟩])
  (.cond (.t 107) (.seq (.reg false [⟨(some 108),.op (.mov (.t 0)),none⟩,
    ⟨(some 109),.op (.mov (.t 8)),none⟩,
    ⟨(some 110),.op (.slcStr (.t 108) (some (.t 109)) none),none⟩,
    ⟨(some 111),.op (.mov (.t 1)),none⟩,
    ⟨(some 112),.callF f_internal_bytealg_IndexString [(.t 110),(.t 111)],none⟩,
    ⟨(some 12),.op (.mov (.t 112)),none⟩])
  (.seq (.seq (.reg false [⟨(some 113),.op (.mov (.t 12)),none⟩,
    ⟨(some 114),.op (.bin .geq (.t 113) (.c (.i .i64 0))),none⟩])
  (.cond (.t 114) (.seq (.reg false [⟨(some 115),.op (.mov (.t 12)),none⟩,
    ⟨(some 116),.op (.mov (.t 8)),none⟩,
    ⟨(some 117),.op (.bin .add (.t 115) (.t 116)),none⟩,
    ⟨(some 4),.op (.mov (.t 117)),none⟩])
  (.ret)) (.skip)))
  (.seq (.reg false [⟨(some 4),.op (.mov (.c (.i .i64 (-1)))),none⟩])
  (.ret)))) (.seq (.reg false [⟨(some 118),.op (.mov (.t 5)),none⟩,
    ⟨(some 119),.op (.no),none⟩,
    ⟨(some 120),.op (.bin .gtr (.t 118) (.t 119)),none⟩,
    ⟨(some 121),.op (.mov (.t 120)),none⟩,
    ⟨(some 122),.op (.mov (.t 10)),(some (121,true))⟩,
    ⟨(some 123),.op (.mov (.t 8)),(some (121,true))⟩,
    ⟨(some 124),.op (.bin .shr (.t 123) (.c (.i .u64 4))),(some (121,true))⟩,
    ⟨(some 125),.op (.bin .add (.c (.i .i64 4)) (.t 124)),(some (121,true))⟩,
    ⟨(some 126),.op (.bin .geq (.t 122) (.t 125)),(some (121,true))⟩,
    ⟨(some 127),.op (.pick (.t 121) (.t 126) (.c (.b false))),none⟩,
    ⟨(some 128),.op (.mov (.t 127)),none⟩,
    ⟨(some 129),.op (.mov (.t 8)),(some (128,true))⟩,
    ⟨(some 130),.op (.mov (.t 9)),(some (128,true))⟩,
    ⟨(some 131),.op (.bin .lss (.t 129) (.t 130)),(some (128,true))⟩,
    ⟨(some 132),.op (.pick (.t 128) (.t 131) (.c (.b false))),none⟩])
  (.cond (.t 132) (.seq (.reg false [⟨(some 133),.op (.mov (.t 0)),none⟩,
    ⟨(some 134),.op (.mov (.t 8)),none⟩,
    ⟨(some 135),.op (.slcStr (.t 133) (some (.t 134)) none),none⟩,
    ⟨(some 136),.op (.mov (.t 1)),none⟩,
    ⟨(some 137),.callF f_internal_bytealg_IndexRabinKarp_string [(.t 135),(.t 136)],none⟩,
    ⟨(some 13),.op (.mov (.t 137)),none⟩])
  (.seq (.seq (.reg false [⟨(some 138),.op (.mov (.t 13)),none⟩,
    ⟨(some 139),.op (.bin .lss (.t 138) (.c (.i .i64 0))),none⟩])
  (.cond (.t 139) (.seq (.reg false [⟨(some 4),.op (.mov (.c (.i .i64 (-1)))),none⟩])
  (.ret)) (.skip)))
  (.seq (.reg false [⟨(some 140),.op (.mov (.t 8)),none⟩,
    ⟨(some 141),.op (.mov (.t 13)),none⟩,
    ⟨(some 142),.op (.bin .add (.t 140) (.t 141)),none⟩,
    ⟨(some 4),.op (.mov (.t 142)),none⟩])
  (.ret)))) (.skip)))))))))))))
  (.seq (.reg false [⟨(some 4),.op (.mov (.c (.i .i64 (-1)))),none⟩])
  (.ret))))))))))⟩
theorem index58 {g1 g2 g3 g4:Nat} (hc:chkFn P f (ir_internal_stringslite_Index g1 g2 g3 g4) = true) (hg:∀ (a:List UInt8) (c:UInt8),Pure P g1 [.s a,.i .u8 (c.toNat:Int)] (.i .i64 (idxB c a 0))) (a:List UInt8):Pure P f [.s a,.s [58]] (.i .i64 (idxB 58 a 0)):=by
  refine Pure.mk hc rfl ?_
  simp only [ir_internal_stringslite_Index,argsT,H0,mkT,mkH,trL,List.length_cons,List.length_nil,Nat.reduceAdd,Nat.zero_add]
  by_cases h:[58] = a
  · have h':([58] = a) = True:=eq_true h
    have hw:idxB 58 a 0 = 0:=by rw [← h]; rfl
    simp only [↓vS,cvF_pc,vP,shb,shv,shvs,she_nil,she_cons,vC,vQ,Nat.reduceEqDiff,↓reduceIte,eq_self,Nat.reduceAdd,Nat.reduceMul,Nat.reduceSub,Nat.reduceLeDiff,Nat.reduceLT,defd,cellsOf,wr,packR,Int.reduceLE,Int.reduceLT,Int.reduceEq,Int.cast_ofNat_Int,Int.reduceToNat,h']
    simp [vZ,hw]
  · simp only [↓vS,cvF_pc,vP,shb,shv,shvs,she_nil,she_cons,vC,vQ,Nat.reduceEqDiff,↓reduceIte,eq_self,Nat.reduceAdd,Nat.reduceMul,Nat.reduceSub,Nat.reduceLeDiff,Nat.reduceLT,defd,cellsOf,wr,packR,Int.reduceLE,Int.reduceLT,Int.reduceEq,Int.cast_ofNat_Int,Int.reduceToNat,h]
    refine (hg a 58).sc ?_
    simp only [↓vS,cvF_pc,vP,shb,shv,shvs,she_nil,she_cons,vC,vQ,Nat.reduceEqDiff,↓reduceIte,eq_self,Nat.reduceAdd,Nat.reduceMul,Nat.reduceSub,Nat.reduceLeDiff,Nat.reduceLT,defd,cellsOf,wr,packR,Int.reduceLE,Int.reduceLT,Int.reduceEq,Int.cast_ofNat_Int,Int.reduceToNat]
    simp [vZ]
def cutM (a:List UInt8):List UInt8 × List UInt8 × Bool:=if 0 ≤ idxB 58 a 0 then (a.take (idxB 58 a 0).toNat,a.drop ((idxB 58 a 0).toNat + 1),true) else (a,[],false)
def ir_internal_stringslite_Cut (f_internal_stringslite_Index:Nat):IFn:=⟨[.tmp 4,.tmp 5,.tmp 6],
  .seq (.reg false [⟨(some 4),.op (.mov (.c (.s []))),none⟩,
    ⟨(some 5),.op (.mov (.c (.s []))),none⟩,
    ⟨(some 6),.op (.mov (.c (.b false))),none⟩])
  (.seq (.seq (.reg false [⟨(some 8),.op (.mov (.t 0)),none⟩,
    ⟨(some 9),.op (.mov (.t 1)),none⟩,
    ⟨(some 10),.callF f_internal_stringslite_Index [(.t 8),(.t 9)],none⟩,
    ⟨(some 7),.op (.mov (.t 10)),none⟩])
  (.seq (.reg false [⟨(some 11),.op (.mov (.t 7)),none⟩,
    ⟨(some 12),.op (.bin .geq (.t 11) (.c (.i .i64 0))),none⟩])
  (.cond (.t 12) (.seq (.reg true [⟨(some 13),.op (.mov (.t 0)),none⟩,
    ⟨(some 14),.op (.mov (.t 7)),none⟩,
    ⟨(some 15),.op (.slcStr (.t 13) none (some (.t 14))),none⟩,
    ⟨(some 16),.op (.mov (.t 0)),none⟩,
    ⟨(some 17),.op (.mov (.t 7)),none⟩,
    ⟨(some 18),.op (.mov (.t 1)),none⟩,
    ⟨(some 19),.op (.len true (.t 18)),none⟩,
    ⟨(some 20),.op (.bin .add (.t 17) (.t 19)),none⟩,
    ⟨(some 21),.op (.slcStr (.t 16) (some (.t 20)) none),none⟩,
    ⟨(some 4),.op (.mov (.t 15)),none⟩,
    ⟨(some 5),.op (.mov (.t 21)),none⟩,
    ⟨(some 6),.op (.mov (.c (.b true))),none⟩])
  (.ret)) (.skip))))
  (.seq (.reg false [⟨(some 22),.op (.mov (.t 0)),none⟩,
    ⟨(some 4),.op (.mov (.t 22)),none⟩,
    ⟨(some 5),.op (.mov (.c (.s []))),none⟩,
    ⟨(some 6),.op (.mov (.c (.b false))),none⟩])
  (.ret)))⟩
theorem cutL58 {g1:Nat} (hc:chkFn P f (ir_internal_stringslite_Cut g1) = true) (hg:∀ a,Pure P g1 [.s a,.s [58]] (.i .i64 (idxB 58 a 0))) (a:List UInt8) (ha:a.length ≤ 1000000):Pure P f [.s a,.s [58]] (.tup [.s (cutM a).1,.s (cutM a).2.1,.b (cutM a).2.2]):=by
  refine Pure.mk hc rfl ?_
  simp only [ir_internal_stringslite_Cut,argsT,H0,mkT,mkH,trL,List.length_cons,List.length_nil,Nat.reduceAdd,Nat.zero_add]
  simp only [↓vS,cvF_pc,vP,shb,shv,shvs,she_nil,she_cons,vC,vQ,Nat.reduceEqDiff,↓reduceIte,eq_self,Nat.reduceAdd,Nat.reduceMul,Nat.reduceSub,Nat.reduceLeDiff,Nat.reduceLT,defd,cellsOf,wr,packR,Int.reduceLE,Int.reduceLT,Int.reduceEq,Int.cast_ofNat_Int,Int.reduceToNat]
  refine (hg a).sc ?_
  rcases idxB_range 58 a 0 with h | ⟨i,h,hi⟩
  · have hw:cutM a = (a,[],false):=by unfold cutM; rw [h]; rfl
    rw [h,hw]
    simp only [↓vS,cvF_pc,vP,shb,shv,shvs,she_nil,she_cons,vC,vQ,Nat.reduceEqDiff,↓reduceIte,eq_self,Nat.reduceAdd,Nat.reduceMul,Nat.reduceSub,Nat.reduceLeDiff,Nat.reduceLT,defd,cellsOf,wr,packR,Int.reduceLE,Int.reduceLT,Int.reduceEq,Int.cast_ofNat_Int,Int.reduceToNat]
    simp [vZ]
  · rw [Nat.zero_add] at h
    have h0:(0:Int) ≤ (i:Int):=by omega
    have hw:cutM a = (a.take i,a.drop (i + 1),true):=by unfold cutM; rw [h,if_pos h0]; rfl
    have e1:IntKind.wrap .i64 ((i:Int) + 1) = ((i + 1:Nat):Int):=by rw [wrap64 (by omega) (by omega)]; omega
    have h1:i ≤ a.length:=by omega
    have h2:i + 1 ≤ a.length:=by omega
    have h3:(i:Int) ≤ a.length:=by omega
    rw [h,hw]
    simp only [↓vS,cvF_pc,vP,shb,shv,shvs,she_nil,she_cons,vC,vQ,Nat.reduceEqDiff,↓reduceIte,eq_self,Nat.reduceAdd,Nat.reduceMul,Nat.reduceSub,Nat.reduceLeDiff,Nat.reduceLT,defd,cellsOf,wr,packR,Int.reduceLE,Int.reduceLT,Int.reduceEq,Int.cast_ofNat_Int,Int.reduceToNat,h0]
    refine VD_pc ?_
    simp only [↓vS,cvF_pc,vP,shb,shv,shvs,she_nil,she_cons,vC,vQ,Nat.reduceEqDiff,↓reduceIte,eq_self,Nat.reduceAdd,Nat.reduceMul,Nat.reduceSub,Nat.reduceLeDiff,Nat.reduceLT,defd,cellsOf,wr,packR,Int.reduceLE,Int.reduceLT,Int.reduceEq,Int.cast_ofNat_Int,Int.reduceToNat,h1,h2,h3,e1]
    simp [vZ]
def ir_strings_Cut (f_internal_stringslite_Cut:Nat):IFn:=⟨[.tmp 4,.tmp 5,.tmp 6],
  .seq (.reg false [⟨(some 4),.op (.mov (.c (.s []))),none⟩,
    ⟨(some 5),.op (.mov (.c (.s []))),none⟩,
    ⟨(some 6),.op (.mov (.c (.b false))),none⟩])
  (.seq (.reg false [⟨(some 7),.op (.mov (.t 0)),none⟩,
    ⟨(some 8),.op (.mov (.t 1)),none⟩,
    ⟨(some 9),.callF f_internal_stringslite_Cut [(.t 7),(.t 8)],none⟩,
    ⟨(some 10),.op (.ext (.t 9) 0),none⟩,
    ⟨(some 11),.op (.ext (.t 9) 1),none⟩,
    ⟨(some 12),.op (.ext (.t 9) 2),none⟩,
    ⟨(some 4),.op (.mov (.t 10)),none⟩,
    ⟨(some 5),.op (.mov (.t 11)),none⟩,
    ⟨(some 6),.op (.mov (.t 12)),none⟩])
  (.ret))⟩
theorem cut58 {g1:Nat} (hc:chkFn P f (ir_strings_Cut g1) = true) (hg:∀ a:List UInt8,a.length ≤ 1000000 → Pure P g1 [.s a,.s [58]] (.tup [.s (cutM a).1,.s (cutM a).2.1,.b (cutM a).2.2])) (a:List UInt8) (ha:a.length ≤ 1000000):Pure P f [.s a,.s [58]] (.tup [.s (cutM a).1,.s (cutM a).2.1,.b (cutM a).2.2]):=by
  refine Pure.mk hc rfl ?_
  simp only [ir_strings_Cut,argsT,H0,mkT,mkH,trL,List.length_cons,List.length_nil,Nat.reduceAdd,Nat.zero_add]
  simp only [↓vS,cvF_pc,vP,shb,shv,shvs,she_nil,she_cons,vC,vQ,Nat.reduceEqDiff,↓reduceIte,eq_self,Nat.reduceAdd,Nat.reduceMul,Nat.reduceSub,Nat.reduceLeDiff,Nat.reduceLT,defd,cellsOf,wr,packR,Int.reduceLE,Int.reduceLT,Int.reduceEq,Int.cast_ofNat_Int,Int.reduceToNat]
  refine (hg a ha).sc ?_
  simp only [↓vS,cvF_pc,vP,shb,shv,shvs,she_nil,she_cons,vC,vQ,Nat.reduceEqDiff,↓reduceIte,eq_self,Nat.reduceAdd,Nat.reduceMul,Nat.reduceSub,Nat.reduceLeDiff,Nat.reduceLT,defd,cellsOf,wr,packR,Int.reduceLE,Int.reduceLT,Int.reduceEq,Int.cast_ofNat_Int,Int.reduceToNat]
  simp [vZ]
structure Word where
  name:List UInt8
  act:Int
  has:Bool
def cWord (w:Word):List AV:=[.s w.name,.i .u32 w.act,.b w.has]
noncomputable def readM (a:List UInt8):Word × Int :=
  if (cutM a).1 = [] then (⟨[],0,false⟩,161)
  else if (cutM a).2.2 = false then (⟨(cutM a).1,0,false⟩,0)
  else if (cutM a).2.1 = killW then (⟨(cutM a).1,2147483648,true⟩,0)
  else if (errnoM (cutM a).2.1).2 = 0 then (⟨(cutM a).1,327680 + (errnoM (cutM a).2.1).1,true⟩,0)
  else (⟨[],0,false⟩,(errnoM (cutM a).2.1).2)
theorem cutM_len (a:List UInt8):(cutM a).2.1.length ≤ a.length:=by
  unfold cutM; split <;> simp
def ir_values_Read (f_strings_Cut f_names_Errno:Nat):IFn:=⟨[.cell 2 3 true,.tmp 3],
  .seq (.reg false [⟨(some 2),.op (.alloc [.s [],.i .u32 0,.b false]),none⟩,
    ⟨(some 3),.op (.mov (.c (.i .i64 0))),none⟩])
  (.seq (.reg false [⟨(some 11),.op (.mov (.t 0)),none⟩,
    ⟨(some 12),.callF f_strings_Cut [(.t 11),(.c (.s [58]))],none⟩,
    ⟨(some 10),.op (.mov (.t 12)),none⟩,
    ⟨(some 13),.op (.ext (.t 10) 0),none⟩,
    ⟨(some 14),.op (.ext (.t 10) 1),none⟩,
    ⟨(some 15),.op (.ext (.t 10) 2),none⟩,
    ⟨(some 4),.op (.mov (.t 13)),none⟩,
    ⟨(some 5),.op (.mov (.t 14)),none⟩,
    ⟨(some 6),.op (.mov (.t 15)),none⟩])
  (.seq (.seq (.reg false [⟨(some 16),.op (.mov (.t 4)),none⟩,
    ⟨(some 17),.op (.bin .eql (.t 16) (.c (.s []))),none⟩])
  (.cond (.t 17) (.seq (.reg false [⟨(some 18),.op (.build [.s [],.i .u32 0,.b false] []),none⟩,
    ⟨none,.op (.store 3 (.t 2) (.t 18)),none⟩,
    ⟨(some 3),.op (.mov (.c (.i .i64 161))),none⟩])
  (.ret)) (.skip)))
  (.seq (.reg false [⟨(some 19),.op (.mov (.t 4)),none⟩,
    ⟨(some 20),.op (.mov (.t 6)),none⟩,
    ⟨(some 21),.op (.build [.s [],.i .u32 0,.b false] [(0,1,(.t 19)),(2,1,(.t 20))]),none⟩,
    ⟨(some 7),.op (.alloc [.s [],.i .u32 0,.b false]),none⟩,
    ⟨none,.op (.store 3 (.t 7) (.t 21)),none⟩])
  (.seq (.blk 0 (.seq (.reg false [⟨(some 35),.op (.mov (.t 6)),none⟩,
    ⟨(some 36),.op (.un .not (.t 35)),none⟩,
    ⟨(some 34),.op (.mov (.t 36)),none⟩])
  (.cond (.t 34) (.skip) (.seq (.reg false [⟨(some 38),.op (.mov (.t 5)),none⟩,
    ⟨(some 39),.op (.bin .eql (.t 38) (.c (.s [107,105,108,108]))),none⟩,
    ⟨(some 37),.op (.mov (.t 39)),none⟩])
  (.cond (.t 37) (.reg false [⟨(some 40),.op (.fAddr 1 (.t 7)),none⟩,
    ⟨none,.op (.store 1 (.t 40) (.c (.i .u32 2147483648))),none⟩]) (.seq (.reg false [⟨(some 23),.op (.mov (.t 5)),none⟩,
    ⟨(some 24),.callF f_names_Errno [(.t 23)],none⟩,
    ⟨(some 22),.op (.mov (.t 24)),none⟩,
    ⟨(some 25),.op (.ext (.t 22) 0),none⟩,
    ⟨(some 26),.op (.ext (.t 22) 1),none⟩,
    ⟨(some 8),.op (.mov (.t 25)),none⟩,
    ⟨(some 9),.op (.mov (.t 26)),none⟩])
  (.seq (.seq (.reg false [⟨(some 27),.op (.mov (.t 9)),none⟩,
    ⟨(some 28),.op (.bin .neq (.t 27) (.c (.i .i64 0))),none⟩])
  (.cond (.t 28) (.seq (.reg false [⟨(some 29),.op (.build [.s [],.i .u32 0,.b false] []),none⟩,
    ⟨(some 30),.op (.mov (.t 9)),none⟩,
    ⟨none,.op (.store 3 (.t 2) (.t 29)),none⟩,
    ⟨(some 3),.op (.mov (.t 30)),none⟩])
  (.ret)) (.skip)))
  (.reg false [⟨(some 31),.op (.mov (.t 8)),none⟩,
    ⟨(some 32),.op (.bin .or (.c (.i .u32 327680)) (.t 31)),none⟩,
    ⟨(some 33),.op (.fAddr 1 (.t 7)),none⟩,
    ⟨none,.op (.store 1 (.t 33) (.t 32)),none⟩]))))))))
  (.seq (.reg false [⟨(some 41),.op (.loadN 3 (.t 7)),none⟩,
    ⟨none,.op (.store 3 (.t 2) (.t 41)),none⟩,
    ⟨(some 3),.op (.mov (.c (.i .i64 0))),none⟩])
  (.ret))))))⟩
theorem read_pure {g1 g2:Nat} (hc:chkFn P f (ir_values_Read g1 g2) = true) (h1:∀ a:List UInt8,a.length ≤ 1000000 → Pure P g1 [.s a,.s [58]] (.tup [.s (cutM a).1,.s (cutM a).2.1,.b (cutM a).2.2]))
    (h2:∀ s:List UInt8,s.length ≤ 1000000 → Pure P g2 [.s s] (.tup [.i .u32 (errnoM s).1,.i .i64 (errnoM s).2])) (a:List UInt8) (ha:a.length ≤ 1000000):Pure P f [.s a] (.tup [.agg (cWord (readM a).1),.i .i64 (readM a).2]):=by
  refine Pure.mk hc rfl ?_
  simp only [ir_values_Read,argsT,H0,mkT,mkH,trL,List.length_cons,List.length_nil,Nat.reduceAdd,Nat.zero_add]
  simp only [↓vS,cvF_pc,vP,shb,shv,shvs,she_nil,she_cons,vC,vQ,Nat.reduceEqDiff,↓reduceIte,eq_self,Nat.reduceAdd,Nat.reduceMul,Nat.reduceSub,Nat.reduceLeDiff,Nat.reduceLT,defd,cellsOf,wr,packR,Int.reduceLE,Int.reduceLT,Int.reduceEq,Int.cast_ofNat_Int,Int.reduceToNat]
  refine (h1 a ha).sc ?_
  by_cases e1:(cutM a).1 = []
  · have hw:readM a = (⟨[],0,false⟩,161):=if_pos e1
    rw [hw]
    simp only [↓vS,cvF_pc,vP,shb,shv,shvs,she_nil,she_cons,vC,vQ,Nat.reduceEqDiff,↓reduceIte,eq_self,Nat.reduceAdd,Nat.reduceMul,Nat.reduceSub,Nat.reduceLeDiff,Nat.reduceLT,defd,cellsOf,wr,packR,Int.reduceLE,Int.reduceLT,Int.reduceEq,Int.cast_ofNat_Int,Int.reduceToNat,e1,cWord]
    simp [vZ]
  cases e2:(cutM a).2.2 with
  | false =>
    have hw:readM a = (⟨(cutM a).1,0,false⟩,0):=by unfold readM; rw [if_neg e1,if_pos e2]
    rw [hw]
    simp only [↓vS,cvF_pc,vP,shb,shv,shvs,she_nil,she_cons,vC,vQ,Nat.reduceEqDiff,↓reduceIte,eq_self,Nat.reduceAdd,Nat.reduceMul,Nat.reduceSub,Nat.reduceLeDiff,Nat.reduceLT,defd,cellsOf,wr,packR,Int.reduceLE,Int.reduceLT,Int.reduceEq,Int.cast_ofNat_Int,Int.reduceToNat,e1,cWord]
    simp [vZ]
  | true =>
    by_cases e3:(cutM a).2.1 = killW
    · have hw:readM a = (⟨(cutM a).1,2147483648,true⟩,0):=by unfold readM; rw [if_neg e1,if_neg (by rw [e2]; decide),if_pos e3]
      rw [hw]
      simp only [killW] at e3
      have e3':((cutM a).2.1 = [107,105,108,108]) = True:=eq_true e3
      simp only [↓vS,cvF_pc,vP,shb,shv,shvs,she_nil,she_cons,vC,vQ,Nat.reduceEqDiff,↓reduceIte,eq_self,Nat.reduceAdd,Nat.reduceMul,Nat.reduceSub,Nat.reduceLeDiff,Nat.reduceLT,defd,cellsOf,wr,packR,Int.reduceLE,Int.reduceLT,Int.reduceEq,Int.cast_ofNat_Int,Int.reduceToNat,e1,e3',cWord]
      simp [vZ]
    · have e3':¬ (cutM a).2.1 = [107,105,108,108]:=e3
      simp only [↓vS,cvF_pc,vP,shb,shv,shvs,she_nil,she_cons,vC,vQ,Nat.reduceEqDiff,↓reduceIte,eq_self,Nat.reduceAdd,Nat.reduceMul,Nat.reduceSub,Nat.reduceLeDiff,Nat.reduceLT,defd,cellsOf,wr,packR,Int.reduceLE,Int.reduceLT,Int.reduceEq,Int.cast_ofNat_Int,Int.reduceToNat,e1,e3',cWord]
      refine (h2 _ (by have:=cutM_len a; omega)).sc ?_
      obtain ⟨q0,q1,q2⟩:=errnoM_ok (cutM a).2.1
      by_cases e4:(errnoM (cutM a).2.1).2 = 0
      · have hw:readM a = (⟨(cutM a).1,327680 + (errnoM (cutM a).2.1).1,true⟩,0):=by unfold readM; rw [if_neg e1,if_neg (by rw [e2]; decide),if_neg e3,if_pos e4]
        rw [hw]
        have hwr:=wrapu32 (x:=327680 + (errnoM (cutM a).2.1).1) (by omega) (by omega)
        simp only [↓vS,cvF_pc,vP,shb,shv,shvs,she_nil,she_cons,vC,vQ,Nat.reduceEqDiff,↓reduceIte,eq_self,Nat.reduceAdd,Nat.reduceMul,Nat.reduceSub,Nat.reduceLeDiff,Nat.reduceLT,defd,cellsOf,wr,packR,Int.reduceLE,Int.reduceLT,Int.reduceEq,Int.cast_ofNat_Int,Int.reduceToNat,e4,or_errno,hwr]
        simp [vZ,vP,Tr.get_set,cWord]
      · have hw:readM a = (⟨[],0,false⟩,(errnoM (cutM a).2.1).2):=by unfold readM; rw [if_neg e1,if_neg (by rw [e2]; decide),if_neg e3,if_neg e4]
        rw [hw]
        simp only [↓vS,cvF_pc,vP,shb,shv,shvs,she_nil,she_cons,vC,vQ,Nat.reduceEqDiff,↓reduceIte,eq_self,Nat.reduceAdd,Nat.reduceMul,Nat.reduceSub,Nat.reduceLeDiff,Nat.reduceLT,defd,cellsOf,wr,packR,Int.reduceLE,Int.reduceLT,Int.reduceEq,Int.cast_ofNat_Int,Int.reduceToNat,e4]
        simp [vZ,vP,Tr.get_set,cWord]
end Go.Kc
end
section
/- Lists and notes are the same as themselves. Condition: the functions' texts are these. -/
namespace Go.Kc
variable {P:Program} {f:Nat}
def ir_vestibulelaw17_sameLists:IFn:=⟨[.tmp 4],
  .seq (.reg false [⟨(some 2),.op (.box (.t 0)),none⟩,
    ⟨(some 3),.op (.box (.t 1)),none⟩,
    ⟨(some 4),.op (.mov (.c (.b false))),none⟩])
  (.seq (.seq (.reg false [⟨(some 6),.op (.fAddr 0 (.t 2)),none⟩,
    ⟨(some 7),.op (.load1 (.t 6)),none⟩,
    ⟨(some 8),.op (.fAddr 0 (.t 3)),none⟩,
    ⟨(some 9),.op (.load1 (.t 8)),none⟩,
    ⟨(some 10),.op (.bin .neq (.t 7) (.t 9)),none⟩,
    ⟨(some 11),.op (.mov (.t 10)),none⟩,
    ⟨(some 12),.op (.fAddr 1 (.t 2)),(some (11,false))⟩,
    ⟨(some 13),.op (.load1 (.t 12)),(some (11,false))⟩,
    ⟨(some 14),.op (.len false (.t 13)),(some (11,false))⟩,
    ⟨(some 15),.op (.fAddr 1 (.t 3)),(some (11,false))⟩,
    ⟨(some 16),.op (.load1 (.t 15)),(some (11,false))⟩,
    ⟨(some 17),.op (.len false (.t 16)),(some (11,false))⟩,
    ⟨(some 18),.op (.bin .neq (.t 14) (.t 17)),(some (11,false))⟩,
    ⟨(some 19),.op (.pick (.t 11) (.c (.b true)) (.t 18)),none⟩])
  (.cond (.t 19) (.seq (.reg false [⟨(some 4),.op (.mov (.c (.b false))),none⟩])
  (.ret)) (.skip)))
  (.seq (.seq (.reg false [⟨(some 5),.op (.mov (.c (.i .i64 0))),none⟩])
  (.blk 0 (.loop (.seq (.seq (.reg false [⟨(some 20),.op (.mov (.t 5)),none⟩,
    ⟨(some 21),.op (.fAddr 1 (.t 2)),none⟩,
    ⟨(some 22),.op (.load1 (.t 21)),none⟩,
    ⟨(some 23),.op (.len false (.t 22)),none⟩,
    ⟨(some 24),.op (.bin .lss (.t 20) (.t 23)),none⟩])
  (.cond (.t 24) (.skip) (.exit 0)))
  (.seq (.blk 1 (.seq (.reg true [⟨(some 27),.op (.fAddr 1 (.t 2)),none⟩,
    ⟨(some 28),.op (.load1 (.t 27)),none⟩,
    ⟨(some 29),.op (.mov (.t 5)),none⟩,
    ⟨(some 30),.op (.iAddrS 2 (.t 28) (.t 29)),none⟩,
    ⟨(some 31),.op (.loadN 2 (.t 30)),none⟩,
    ⟨(some 32),.op (.fAddr 1 (.t 3)),none⟩,
    ⟨(some 33),.op (.load1 (.t 32)),none⟩,
    ⟨(some 34),.op (.mov (.t 5)),none⟩,
    ⟨(some 35),.op (.iAddrS 2 (.t 33) (.t 34)),none⟩,
    ⟨(some 36),.op (.loadN 2 (.t 35)),none⟩,
    ⟨(some 37),.op (.eqA true [.s,.i] (.t 31) (.t 36)),none⟩])
  (.cond (.t 37) (.seq (.reg false [⟨(some 4),.op (.mov (.c (.b false))),none⟩])
  (.ret)) (.skip))))
  (.reg false [⟨(some 25),.op (.mov (.t 5)),none⟩,
    ⟨(some 26),.op (.bin .add (.t 25) (.c (.i .i64 1))),none⟩,
    ⟨(some 5),.op (.mov (.t 26)),none⟩]))))))
  (.seq (.reg false [⟨(some 4),.op (.mov (.c (.b true))),none⟩])
  (.ret))))⟩
theorem sameLists_self (hc:chkFn P f ir_vestibulelaw17_sameLists = true) (l:GList) (hl:l.calls.length ≤ 100000):Pure P f [.agg (cList l),.agg (cList l)] (.b true):=by
  refine Pure.mk hc rfl ?_
  simp only [ir_vestibulelaw17_sameLists,cList,argsT,H0,mkT,mkH,trL,List.length_cons,List.length_nil,Nat.reduceAdd,Nat.zero_add]
  simp only [↓vS,cvF_pc,vP,shb,shv,shvs,she_nil,she_cons,vC,vQ,Nat.reduceEqDiff,↓reduceIte,eq_self,Nat.reduceAdd,Nat.reduceMul,Nat.reduceSub,Nat.reduceLeDiff,Nat.reduceLT,defd,cellsOf,wr,packR,Int.reduceLE,Int.reduceLT,Int.reduceEq,Int.cast_ofNat_Int,Int.reduceToNat]
  refine SL.loop (α:=Nat) (fun j=>[(2,.ptr 0 0),(3,.ptr 1 0),(4,.b false),(5,.i .i64 j)]) (fun _=>[.cells 0 true false (cList l),.cells 0 true false (cList l)]) (fun _=>True) (fun j=>l.calls.length - j) 0 [0,1] ?_ ?_ ?_ rfl ?_ ?_
  · simp [vW,bw_map,mapAt_map,mapClo_it,mapClo_nil,mapClo_cons,vP,vZ,Tr.get_set]
  · simp [vW,bw_map,mapAt_map,mapClo_it,mapClo_nil,mapClo_cons,vP,vZ,Tr.get_set,cList]
  · simp
  · trivial
  rintro j - G ih
  simp only [argsT,H0,mkT,mkH,trL,List.length_cons,List.length_nil,Nat.reduceAdd,Nat.zero_add,cList]
  by_cases hlt:j < l.calls.length
  · have hx:l.calls[j]? = some l.calls[j]:=List.getElem?_eq_getElem hlt
    have he:=rC_elem hx
    have hb:=rC_bound hlt
    have hw:IntKind.wrap .i64 ((j:Int) + 1) = ((j + 1:Nat):Int):=by rw [wrap64 (by omega) (by omega)]; omega
    simp only [↓vS,cvF_pc,vP,shb,shv,shvs,she_nil,she_cons,vC,vQ,Nat.reduceEqDiff,↓reduceIte,eq_self,Nat.reduceAdd,Nat.reduceMul,Nat.reduceSub,Nat.reduceLeDiff,Nat.reduceLT,defd,cellsOf,wr,packR,Int.reduceLE,Int.reduceLT,Int.reduceEq,Int.cast_ofNat_Int,Int.reduceToNat,hlt]
    refine VD_pc ?_
    simp (decide:=true) only [↓vS,cvF_pc,vP,shb,shv,shvs,she_nil,she_cons,vC,vQ,Nat.reduceEqDiff,↓reduceIte,eq_self,Nat.reduceAdd,Nat.reduceMul,Nat.reduceSub,Nat.reduceLeDiff,Nat.reduceLT,defd,cellsOf,wr,packR,Int.reduceLE,Int.reduceLT,Int.reduceEq,Int.cast_ofNat_Int,Int.reduceToNat,hlt,hb,he,cCall,hw,beq_self_eq_true]
    refine ih (j + 1) trivial (by omega) _ _ (Wk.mk _ _ [0,1] ?_ ?_ ?_ rfl)
    · simp [vW,bw_map,mapAt_map,mapClo_it,mapClo_nil,mapClo_cons,vP,vZ,Tr.get_set]
    · simp [vW,bw_map,mapAt_map,mapClo_it,mapClo_nil,mapClo_cons,vP,vZ,Tr.get_set,cList]
    · simp
  · simp only [↓vS,cvF_pc,vP,shb,shv,shvs,she_nil,she_cons,vC,vQ,Nat.reduceEqDiff,↓reduceIte,eq_self,Nat.reduceAdd,Nat.reduceMul,Nat.reduceSub,Nat.reduceLeDiff,Nat.reduceLT,defd,cellsOf,wr,packR,Int.reduceLE,Int.reduceLT,Int.reduceEq,Int.cast_ofNat_Int,Int.reduceToNat,hlt,vZ]
end Go.Kc
end
section
/- What a word of a list stands for: fold.members, of what groups.Expand answers. Condition: the functions' texts are these. -/
namespace Go.Kc
variable {P:Program} {f:Nat}
def cExp (E:List UInt8 → List (List UInt8) × Int) (P:Program) (f:Nat):Prop:=∀ s:List UInt8,Pure P f [.s s] (.tup [.fz (E s).1.length (rS (E s).1),.i .i64 (E s).2])
def memM (E:List UInt8 → List (List UInt8) × Int) (s:List UInt8):List (List UInt8) × Int:=if [64].isPrefixOf s = true then E s else if knownM s = true then ([s],0) else ([],90)
def ir_strings_HasPrefix (f_internal_stringslite_HasPrefix:Nat):IFn:=⟨[.tmp 4],
  .seq (.reg false [⟨(some 4),.op (.mov (.c (.b false))),none⟩])
  (.seq (.reg false [⟨(some 5),.op (.mov (.t 0)),none⟩,
    ⟨(some 6),.op (.mov (.t 1)),none⟩,
    ⟨(some 7),.callF f_internal_stringslite_HasPrefix [(.t 5),(.t 6)],none⟩,
    ⟨(some 4),.op (.mov (.t 7)),none⟩])
  (.ret))⟩
theorem hasPrefix_strings {g:Nat} (hc:chkFn P f (ir_strings_HasPrefix g) = true) (hg:∀ s p:List UInt8,Pure P g [.s s,.s p] (.b (p.isPrefixOf s))) (s p:List UInt8):Pure P f [.s s,.s p] (.b (p.isPrefixOf s)):=by
  refine Pure.mk hc rfl ?_
  simp only [ir_strings_HasPrefix,argsT,H0,mkT,mkH,trL,List.length_cons,List.length_nil,Nat.reduceAdd,Nat.zero_add]
  simp only [↓vS,cvF_pc,vP,shb,shv,shvs,she_nil,she_cons,vC,vQ,Nat.reduceEqDiff,↓reduceIte,eq_self,Nat.reduceAdd,Nat.reduceMul,Nat.reduceSub,Nat.reduceLeDiff,Nat.reduceLT,defd,cellsOf,wr,packR,Int.reduceLE,Int.reduceLT,Int.reduceEq,Int.cast_ofNat_Int,Int.reduceToNat]
  refine (hg s p).sc ?_
  simp only [↓vS,cvF_pc,vP,shb,shv,shvs,she_nil,she_cons,vC,vQ,Nat.reduceEqDiff,↓reduceIte,eq_self,Nat.reduceAdd,Nat.reduceMul,Nat.reduceSub,Nat.reduceLeDiff,Nat.reduceLT,defd,cellsOf,wr,packR,Int.reduceLE,Int.reduceLT,Int.reduceEq,Int.cast_ofNat_Int,Int.reduceToNat,vZ]
def ir_fold_members (f_strings_HasPrefix f_groups_Expand f_calls_Known:Nat):IFn:=⟨[.tmp 2,.tmp 3],
  .seq (.reg false [⟨(some 2),.op (.mov (.c (.nils))),none⟩,
    ⟨(some 3),.op (.mov (.c (.i .i64 0))),none⟩])
  (.seq (.blk 0 (.seq (.reg false [⟨(some 5),.op (.mov (.t 0)),none⟩,
    ⟨(some 6),.callF f_strings_HasPrefix [(.t 5),(.c (.s [64]))],none⟩,
    ⟨(some 4),.op (.mov (.t 6)),none⟩])
  (.cond (.t 4) (.seq (.reg false [⟨(some 7),.op (.mov (.t 0)),none⟩,
    ⟨(some 8),.callF f_groups_Expand [(.t 7)],none⟩,
    ⟨(some 9),.op (.ext (.t 8) 0),none⟩,
    ⟨(some 10),.op (.ext (.t 8) 1),none⟩,
    ⟨(some 2),.op (.mov (.t 9)),none⟩,
    ⟨(some 3),.op (.mov (.t 10)),none⟩])
  (.ret)) (.seq (.reg false [⟨(some 12),.op (.mov (.t 0)),none⟩,
    ⟨(some 13),.callF f_calls_Known [(.t 12)],none⟩,
    ⟨(some 11),.op (.mov (.t 13)),none⟩])
  (.cond (.t 11) (.seq (.reg false [⟨(some 14),.op (.mov (.t 0)),none⟩,
    ⟨(some 15),.op (.buildS 1 [.s []] [(0,1,(.t 14))]),none⟩,
    ⟨(some 2),.op (.mov (.t 15)),none⟩,
    ⟨(some 3),.op (.mov (.c (.i .i64 0))),none⟩])
  (.ret)) (.skip))))))
  (.seq (.reg false [⟨(some 2),.op (.mov (.c (.nils))),none⟩,
    ⟨(some 3),.op (.mov (.c (.i .i64 90))),none⟩])
  (.ret)))⟩
theorem members_pure {g1 g2 g3:Nat} (hc:chkFn P f (ir_fold_members g1 g2 g3) = true) (E:List UInt8 → List (List UInt8) × Int) (h1:∀ s p:List UInt8,Pure P g1 [.s s,.s p] (.b (p.isPrefixOf s))) (h2:cExp E P g2) (h3:∀ s,Pure P g3 [.s s] (.b (knownM s))):cExp (memM E) P f:=by
  intro s
  refine Pure.mk hc rfl ?_
  simp only [ir_fold_members,argsT,H0,mkT,mkH,trL,List.length_cons,List.length_nil,Nat.reduceAdd,Nat.zero_add]
  simp only [↓vS,cvF_pc,vP,shb,shv,shvs,she_nil,she_cons,vC,vQ,Nat.reduceEqDiff,↓reduceIte,eq_self,Nat.reduceAdd,Nat.reduceMul,Nat.reduceSub,Nat.reduceLeDiff,Nat.reduceLT,defd,cellsOf,wr,packR,Int.reduceLE,Int.reduceLT,Int.reduceEq,Int.cast_ofNat_Int,Int.reduceToNat]
  refine (h1 s [64]).sc ?_
  cases e1:[64].isPrefixOf s with
  | true =>
    have hw:memM E s = E s:=if_pos e1
    rw [hw]
    simp only [↓vS,cvF_pc,vP,shb,shv,shvs,she_nil,she_cons,vC,vQ,Nat.reduceEqDiff,↓reduceIte,eq_self,Nat.reduceAdd,Nat.reduceMul,Nat.reduceSub,Nat.reduceLeDiff,Nat.reduceLT,defd,cellsOf,wr,packR,Int.reduceLE,Int.reduceLT,Int.reduceEq,Int.cast_ofNat_Int,Int.reduceToNat]
    refine (h2 s).sc ?_
    simp only [↓vS,cvF_pc,vP,shb,shv,shvs,she_nil,she_cons,vC,vQ,Nat.reduceEqDiff,↓reduceIte,eq_self,Nat.reduceAdd,Nat.reduceMul,Nat.reduceSub,Nat.reduceLeDiff,Nat.reduceLT,defd,cellsOf,wr,packR,Int.reduceLE,Int.reduceLT,Int.reduceEq,Int.cast_ofNat_Int,Int.reduceToNat]
    simp [vZ]
  | false =>
    simp only [↓vS,cvF_pc,vP,shb,shv,shvs,she_nil,she_cons,vC,vQ,Nat.reduceEqDiff,↓reduceIte,eq_self,Nat.reduceAdd,Nat.reduceMul,Nat.reduceSub,Nat.reduceLeDiff,Nat.reduceLT,defd,cellsOf,wr,packR,Int.reduceLE,Int.reduceLT,Int.reduceEq,Int.cast_ofNat_Int,Int.reduceToNat]
    refine (h3 s).sc ?_
    cases e2:knownM s with
    | true =>
      have hw:memM E s = ([s],0):=by unfold memM; rw [if_neg (by rw [e1]; decide),if_pos e2]
      rw [hw]
      simp only [↓vS,cvF_pc,vP,shb,shv,shvs,she_nil,she_cons,vC,vQ,Nat.reduceEqDiff,↓reduceIte,eq_self,Nat.reduceAdd,Nat.reduceMul,Nat.reduceSub,Nat.reduceLeDiff,Nat.reduceLT,defd,cellsOf,wr,packR,Int.reduceLE,Int.reduceLT,Int.reduceEq,Int.cast_ofNat_Int,Int.reduceToNat]
      simp [vZ,vP,Tr.get_set,rS]
      exact Frz.cut 1 rfl (Nat.le_refl _) (by simp [vP,Tr.get_set,vZ])
    | false =>
      have hw:memM E s = ([],90):=by unfold memM; rw [if_neg (by rw [e1]; decide),if_neg (by rw [e2]; decide)]
      rw [hw]
      simp only [↓vS,cvF_pc,vP,shb,shv,shvs,she_nil,she_cons,vC,vQ,Nat.reduceEqDiff,↓reduceIte,eq_self,Nat.reduceAdd,Nat.reduceMul,Nat.reduceSub,Nat.reduceLeDiff,Nat.reduceLT,defd,cellsOf,wr,packR,Int.reduceLE,Int.reduceLT,Int.reduceEq,Int.cast_ofNat_Int,Int.reduceToNat]
      simp [vZ,rS]
end Go.Kc
end
section
/- A note of a word: what fold.Step's closure does. Condition: the function's text is this. -/
namespace Go.Kc
variable {P:Program} {f:Nat}
def ir_fold_Step_1:IFn:=⟨[],
  .reg true [⟨(some 4),.op (.load1 (.t 1)),none⟩,
    ⟨(some 5),.op (.mov (.t 0)),none⟩,
    ⟨(some 6),.op (.load1 (.t 2)),none⟩,
    ⟨(some 7),.op (.load1 (.t 2)),none⟩,
    ⟨(some 8),.op (.len true (.t 7)),none⟩,
    ⟨(some 9),.op (.min (.t 8) (.c (.i .i64 60))),none⟩,
    ⟨(some 10),.op (.slcStr (.t 6) none (some (.t 9))),none⟩,
    ⟨(some 11),.op (.build [.s [],.i .i64 0,.i .i64 0,.s []] [(2,1,(.t 5)),(3,1,(.t 10))]),none⟩,
    ⟨(some 12),.op (.buildS 1 [.s [],.i .i64 0,.i .i64 0,.s []] [(0,4,(.t 11))]),none⟩,
    ⟨(some 13),.op (.app 4 48 true (.t 4) (.t 12)),none⟩,
    ⟨none,.op (.store 1 (.t 1) (.t 13)),none⟩]⟩
def noteW (e:Int) (w:List UInt8):GNote:=⟨[],0,e,w.take 60⟩
theorem step1_upd (hc:chkFn P f ir_fold_Step_1 = true) (ns:List GNote) (e:Int) (w:List UInt8) (hr:(ns.length + 1) * 48 ≤ roomB) :
    Upd P f [.i .i64 e,.ptr 0 0,.ptr 1 0] [.cells 0 true false [.own 2 ns.length],.cells 0 true false [.s w],.cells 4 true true (rN ns)] (.tup []) [.cells 0 true false [.own 3 (ns ++ [noteW e w]).length],.cells 0 true false [.s w],.dead,.cells 4 true true (rN (ns ++ [noteW e w]))]:=by
  refine Upd.mk hc (by simp [bnds,bnd]) (by simp) ?_
  simp only [ir_fold_Step_1,argsT,H0,mkT,mkH,trL,List.length_cons,List.length_nil,Nat.reduceAdd,Nat.zero_add]
  simp only [↓vS,cvF_pc,vP,shb,shv,shvs,she_nil,she_cons,vC,vQ,Nat.reduceEqDiff,↓reduceIte,eq_self,Nat.reduceAdd,Nat.reduceMul,Nat.reduceSub,Nat.reduceLeDiff,Nat.reduceLT,defd,cellsOf,wr,packR,Int.reduceLE,Int.reduceLT,Int.reduceEq,Int.cast_ofNat_Int,Int.reduceToNat]
  refine VD_pc ?_
  have hr1:ns.length + 1 ≤ roomB:=by omega
  have fin:∀ tt,tt = w.take 60 → rN ns ++ [AV.s [],.i .i64 0,.i .i64 e,.s tt] = rN (ns ++ [noteW e w]):=by
    intro tt ht; subst ht; rw [← rN_app]; rfl
  by_cases h60:(60:Int) < w.length
  · have h1:60 ≤ w.length:=by omega
    simp only [↓vS,cvF_pc,vP,shb,shv,shvs,she_nil,she_cons,vC,vQ,Nat.reduceEqDiff,↓reduceIte,eq_self,Nat.reduceAdd,Nat.reduceMul,Nat.reduceSub,Nat.reduceLeDiff,Nat.reduceLT,defd,cellsOf,wr,packR,Int.reduceLE,Int.reduceLT,Int.reduceEq,Int.cast_ofNat_Int,Int.reduceToNat,h60,h1,hr1,hr,rN_len,fin _ rfl]
    intro _
    refine ⟨[0,1,2,4],?_⟩
    simp [vW,bw_map,mapAt_map,mapClo_it,mapClo_nil,mapClo_cons,vP,vZ,Tr.get_set,nvs_self,rN_clos]
    try decide
  · have h1:w.take 60 = w:=List.take_of_length_le (by omega)
    simp only [↓vS,cvF_pc,vP,shb,shv,shvs,she_nil,she_cons,vC,vQ,Nat.reduceEqDiff,↓reduceIte,eq_self,Nat.reduceAdd,Nat.reduceMul,Nat.reduceSub,Nat.reduceLeDiff,Nat.reduceLT,defd,cellsOf,wr,packR,Int.reduceLE,Int.reduceLT,Int.reduceEq,Int.cast_ofNat_Int,Int.reduceToNat,h60,hr1,hr,rN_len,List.take_length,fin _ h1.symm]
    intro _
    refine ⟨[0,1,2,4],?_⟩
    simp [vW,bw_map,mapAt_map,mapClo_it,mapClo_nil,mapClo_cons,vP,vZ,Tr.get_set,nvs_self,rN_clos]
    try decide
end Go.Kc
end
section
/- What fold.Step makes of a list, in plain words. No condition. -/
namespace Go.Kc
variable (E:List UInt8 → List (List UInt8) × Int)
noncomputable def stepN (ins:Bool) (act:Int) (l:GList) (n:List UInt8):GList:=if ins = true then putM l n act else takeM l n
noncomputable def stepW (fl t:Bool) (s:GList × List GNote) (w:List UInt8):GList × List GNote :=
  if (readM w).2 ≠ 0 then (s.1,s.2 ++ [noteW (readM w).2 w])
  else if (memM E (readM w).1.name).2 ≠ 0 then (s.1,s.2 ++ [noteW (memM E (readM w).1.name).2 w])
  else if (readM w).1.has = false then ((memM E (readM w).1.name).1.foldl (stepN (decide (s.1.mode - 1 = if t = true then 1 else 0)) (readM w).1.act) s.1,s.2)
  else if fl = false ∨ t = false then ((memM E (readM w).1.name).1.foldl (stepN (decide (s.1.mode - 1 = if t = true then 1 else 0)) 0) s.1,s.2 ++ [noteW 161 w])
  else ((memM E (readM w).1.name).1.foldl (stepN true (readM w).1.act) s.1,s.2)
noncomputable def stepM (l:GList) (v:List UInt8) (fl:Bool):GList × List GNote :=
  if mayM l = false then (l,[])
  else if words v = [] then (⟨0,[]⟩,[])
  else (words (turnP v).1).foldl (stepW E fl (turnP v).2) (⟨if l.mode = 0 then (if (turnP v).2 = true then 2 else 1) else l.mode,l.calls⟩,[])
theorem putM_mode (l:GList) (s:List UInt8) (n:Int):(putM l s n).mode = l.mode:=by unfold putM; split <;> rfl
theorem takeM_mode (l:GList) (s:List UInt8):(takeM l s).mode = l.mode:=by unfold takeM; split <;> rfl
theorem stepN_mode (ins:Bool) (act:Int) (l:GList) (n:List UInt8):(stepN ins act l n).mode = l.mode:=by
  unfold stepN; split
  · exact putM_mode _ _ _
  · exact takeM_mode _ _
theorem foldN_mode (ins:Bool) (act:Int) (ns:List (List UInt8)):∀ l:GList,(ns.foldl (stepN ins act) l).mode = l.mode:=by
  induction ns with
  | nil=>intro l; rfl
  | cons n ns ih=>intro l; rw [List.foldl_cons,ih,stepN_mode]
end Go.Kc
end
section
/- The order of names; lists that rise; what Put and Take make of these. No condition. -/
namespace Go.Kc
theorem ltS_irr:∀ a:List UInt8,ltS a a = false
  | []=>rfl
  | c :: x=>by rw [ltS_cons,if_neg (UInt8.lt_irrefl c),if_pos rfl]; exact ltS_irr x
theorem ltS_trans:∀ {a b c:List UInt8},ltS a b = true → ltS b c = true → ltS a c = true
  | _,[],[],_,h2=>by simp [ltS_nil] at h2
  | _,_ :: _,[],_,h2=>by simp [ltS_nil'] at h2
  | [],_,_ :: _,_,_=>rfl
  | _ :: _,[],_ :: _,h1,_=>by simp [ltS_nil'] at h1
  | a :: x,b :: y,c :: z,h1,h2=>by
    rw [ltS_cons] at h1 h2 ⊢
    simp only [UInt8.lt_iff_toNat_lt,← UInt8.toNat_inj] at h1 h2 ⊢
    by_cases e1:a.toNat < b.toNat
    · by_cases e2:b.toNat < c.toNat
      · rw [if_pos (by omega)]
      · rw [if_neg e2] at h2
        split at h2
        · rw [if_pos (by omega)]
        · cases h2
    · rw [if_neg e1] at h1
      split at h1
      · rename_i e3
        by_cases e2:b.toNat < c.toNat
        · rw [if_pos (by omega)]
        · rw [if_neg e2] at h2
          split at h2
          · rw [if_neg (by omega),if_pos (by omega)]; exact ltS_trans h1 h2
          · cases h2
      · cases h1
theorem ltS_tri:∀ a b:List UInt8,ltS a b = true ∨ a = b ∨ ltS b a = true
  | [],[]=>.inr (.inl rfl)
  | [],_ :: _=>.inl rfl
  | _ :: _,[]=>.inr (.inr rfl)
  | a :: x,b :: y=>by
    rw [ltS_cons,ltS_cons]
    simp only [UInt8.lt_iff_toNat_lt,← UInt8.toNat_inj]
    rcases Nat.lt_trichotomy a.toNat b.toNat with h | h | h
    · left; rw [if_pos h]
    · obtain rfl:=UInt8.toNat_inj.1 h
      simp only [Nat.lt_irrefl,if_false,if_true]
      rcases ltS_tri x y with h | h | h
      · exact .inl h
      · exact .inr (.inl (by rw [h]))
      · exact .inr (.inr h)
    · right; right; rw [if_pos h]
theorem ltS_asymm {a b:List UInt8} (h:ltS a b = true):ltS b a = false:=by
  cases h2:ltS b a with
  | false=>rfl
  | true=>have:=ltS_trans h h2; rw [ltS_irr] at this; cases this
theorem ltS_ne {a b:List UInt8} (h:ltS a b = true):a ≠ b:=by
  intro e; rw [e,ltS_irr] at h; cases h
theorem cmpB_neg {a b:List UInt8}:(cmpB a b < 0) ↔ ltS a b = true:=by
  unfold cmpB
  split
  · rename_i h; rw [h,ltS_irr]; simp
  · split
    · rename_i h; simp [h]
    · rename_i h; simp [h]
theorem cmpB_zero {a b:List UInt8}:(cmpB a b = 0) ↔ a = b:=by
  unfold cmpB
  split
  · rename_i h; simp [h]
  · rename_i h; split <;> simp [h]
def Up (l:List GCall):Prop:=l.Pairwise fun a b=>ltS a.name b.name = true
theorem upFrom_iff:∀ (o:Option GCall) (l:List GCall),upFrom o l = true ↔ ((∀ c ∈ l,okC c = true) ∧ Up l ∧ ∀ b,o = some b → ∀ c ∈ l,ltS b.name c.name = true)
  | o,[]=>by simp [upFrom,Up]
  | o,c :: l=>by
    have ih:=upFrom_iff (some c) l
    simp only [upFrom,Bool.and_eq_true,ih,Up,List.pairwise_cons,List.mem_cons,forall_eq_or_imp]
    constructor
    · rintro ⟨⟨h1,h2⟩,h3,h4,h5⟩
      refine ⟨⟨h1,h3⟩,⟨h5 c rfl,h4⟩,?_⟩
      rintro b rfl
      exact ⟨h2,fun d hd=>ltS_trans h2 (h5 c rfl d hd)⟩
    · rintro ⟨⟨h1,h3⟩,⟨h5,h4⟩,h6⟩
      refine ⟨⟨h1,?_⟩,h3,h4,?_⟩
      · cases o with
        | none=>rfl
        | some b=>exact (h6 b rfl).1
      · rintro b hb; cases hb; exact h5
theorem mayM_iff (l:GList):mayM l = true ↔ (l.mode ≤ 2 ∧ (l.mode ≠ 0 ∨ l.calls = [])) ∧ (∀ c ∈ l.calls,okC c = true) ∧ Up l.calls:=by
  unfold mayM
  rw [Bool.and_eq_true,Bool.and_eq_true,Bool.or_eq_true,decide_eq_true_eq,decide_eq_true_eq,decide_eq_true_eq,upFrom_iff]
  simp
theorem filter_cut {α:Type} (p:α → Bool) (l:List α) (n:Nat) (h1:∀ x ∈ l.take n,p x = true) (h2:∀ x ∈ l.drop n,p x = false):l.filter p = l.take n ∧ l.filter (fun x=>!p x) = l.drop n:=by
  have e:l = l.take n ++ l.drop n:=(List.take_append_drop n l).symm
  constructor
  · conv=>lhs; rw [e,List.filter_append]
    rw [List.filter_eq_self.2 h1,List.filter_eq_nil_iff.2 (fun x hx=>by rw [h2 x hx]; decide),List.append_nil]
  · conv=>lhs; rw [e,List.filter_append]
    rw [List.filter_eq_nil_iff.2 (fun x hx=>by rw [h1 x hx]; decide),List.filter_eq_self.2 (fun x hx=>by rw [h2 x hx]; rfl),List.nil_append]
theorem bsC_cut {l:List GCall} (hu:Up l) (s:List UInt8):(∀ c ∈ l.take (bsC l fun c=>cmpB c.name s),ltS c.name s = true) ∧ ∀ c ∈ l.drop (bsC l fun c=>cmpB c.name s),ltS c.name s = false:=by
  have hq:∀ k c,l[k]? = some c → bsQ l (fun c=>cmpB c.name s) k = ltS c.name s:=by
    intro k c hc
    unfold bsQ; rw [hc]
    show decide (cmpB c.name s < 0) = _
    rw [Bool.eq_iff_iff,decide_eq_true_iff,cmpB_neg]
  have h:=bsN_mono (bsQ l fun c=>cmpB c.name s) (fun a b hab hb=>by
    rcases Nat.lt_or_ge b l.length with hbl | hbl
    · have hx:l[b]? = some l[b]:=List.getElem?_eq_getElem hbl
      have hy:l[a]? = some l[a]:=List.getElem?_eq_getElem (by omega)
      rw [hq b _ hx] at hb
      rw [hq a _ hy]
      rcases Nat.lt_or_eq_of_le hab with h | h
      · exact ltS_trans (List.pairwise_iff_getElem.1 hu a b (by omega) hbl h) hb
      · subst h; exact hb
    · unfold bsQ at hb; rw [List.getElem?_eq_none hbl] at hb; cases hb) _ 0 l.length rfl (Nat.zero_le _) (fun a ha=>by omega) (fun a ha=>by unfold bsQ; rw [List.getElem?_eq_none ha]; rfl)
  constructor
  · intro c hc
    obtain ⟨k,hk,rfl⟩:=List.getElem_of_mem hc
    rw [List.length_take] at hk
    have hk:=Nat.lt_min.1 hk
    have:=h.1 k hk.1
    rw [hq k l[k] (List.getElem?_eq_getElem hk.2)] at this
    rw [List.getElem_take]; exact this
  · intro c hc
    obtain ⟨k,hk,rfl⟩:=List.getElem_of_mem hc
    rw [List.length_drop] at hk
    have:=h.2 (bsC l (fun c=>cmpB c.name s) + k) (by show bsC l _ ≤ _; omega)
    rw [hq _ l[bsC l (fun c=>cmpB c.name s) + k] (List.getElem?_eq_getElem (by omega))] at this
    rw [List.getElem_drop]; exact this
theorem putL_eq {l:List GCall} (hu:Up l) (s:List UInt8) (n:Int):putL l s n = l.filter (fun c=>ltS c.name s) ++ ⟨s,n⟩ :: l.filter (fun c=>ltS s c.name):=by
  obtain ⟨h1,h2⟩:=bsC_cut hu s
  obtain ⟨e1,e2⟩:=filter_cut (fun c=>ltS c.name s) l _ h1 h2
  have hcut:l = l.take (bsC l fun c=>cmpB c.name s) ++ l.drop (bsC l fun c=>cmpB c.name s):=(List.take_append_drop _ l).symm
  have hA:(l.take (bsC l fun c=>cmpB c.name s)).filter (fun c=>ltS s c.name) = []:=by
    rw [List.filter_eq_nil_iff]
    intro c hc; rw [ltS_asymm (h1 c hc)]; decide
  have hud:Up (l.drop (bsC l fun c=>cmpB c.name s)):=List.Pairwise.sublist (List.drop_sublist _ _) hu
  have e3:l.filter (fun c=>ltS s c.name) = (l.drop (bsC l fun c=>cmpB c.name s)).filter (fun c=>ltS s c.name):=by
    conv=>lhs; rw [hcut,List.filter_append,hA,List.nil_append]
  rw [e1,e3]
  unfold putL
  generalize hN:bsC l (fun c=>cmpB c.name s) = N at *
  by_cases hlt:N < l.length
  · have hx:l[N]? = some l[N]:=List.getElem?_eq_getElem hlt
    rw [List.drop_eq_getElem_cons hlt] at hud h2 ⊢
    have hud':=List.pairwise_cons.1 hud
    rw [hx]
    show (if decide (cmpB l[N].name s = 0) = true then _ else _) = _
    by_cases he:cmpB l[N].name s = 0
    · rw [if_pos (decide_eq_true he),List.set_eq_take_append_cons_drop,if_pos hlt]
      have he2:=cmpB_zero.1 he
      rw [List.filter_cons,he2,ltS_irr,if_neg (by decide),List.filter_eq_self.2]
      intro c hc; rw [← he2]; exact hud'.1 c hc
    · rw [if_neg (by simpa using he)]
      have hne:¬ l[N].name = s:=fun h=>he (cmpB_zero.2 h)
      have hs:ltS s l[N].name = true:=by
        rcases ltS_tri s l[N].name with h | h | h
        · exact h
        · exact absurd h.symm hne
        · rw [h2 _ List.mem_cons_self] at h; cases h
      rw [List.filter_eq_self.2]
      intro c hc
      rcases List.mem_cons.1 hc with rfl | hc
      · exact hs
      · exact ltS_trans hs (hud'.1 c hc)
  · rw [List.getElem?_eq_none (by omega),List.drop_eq_nil_of_le (by omega)]
    rfl
theorem findC_filter (l:List GCall) (p:List UInt8 → Bool) (t:List UInt8):findC (l.filter fun c=>p c.name) t = if p t = true then findC l t else none:=by
  unfold findC
  rw [List.find?_filter]
  cases h:p t with
  | true =>
    rw [if_pos rfl]
    congr 1; funext c
    by_cases e:c.name = t
    · simp [e,h]
    · simp [e]
  | false =>
    rw [if_neg (by decide),List.find?_eq_none]
    intro c _
    by_cases e:c.name = t
    · simp [e,h]
    · simp [e]
theorem findC_take (l:List GCall) (s t:List UInt8):findC (l.filter fun c=>!decide (c.name = s)) t = if t = s then none else findC l t:=by
  rw [findC_filter l (fun n=>!decide (n = s)) t]
  by_cases h:t = s <;> simp [h]
theorem findC_app (l m:List GCall) (t:List UInt8):findC (l ++ m) t = (findC l t).or (findC m t):=by
  unfold findC; rw [List.find?_append]
theorem findC_put {l:List GCall} (hu:Up l) (s:List UInt8) (n:Int) (t:List UInt8):findC (putL l s n) t = if t = s then some ⟨s,n⟩ else findC l t:=by
  rw [putL_eq hu,findC_app,findC_filter l (fun x=>ltS x s)]
  have e:findC (⟨s,n⟩ :: l.filter fun c=>ltS s c.name) t = if s = t then some ⟨s,n⟩ else findC (l.filter fun c=>ltS s c.name) t:=by
    unfold findC; rw [List.find?_cons]
    by_cases h:s = t <;> simp [h]
  rw [e,findC_filter l (fun x=>ltS s x)]
  rcases ltS_tri t s with h | h | h
  · rw [h,ltS_asymm h,if_pos rfl,if_neg (Ne.symm (ltS_ne h)),if_neg (by decide),if_neg (ltS_ne h),Option.or_none]
  · rw [h,ltS_irr,if_neg (by decide),if_pos rfl,if_pos rfl]; rfl
  · rw [h,ltS_asymm h,if_neg (by decide),if_neg (ltS_ne h),if_pos rfl,if_neg (Ne.symm (ltS_ne h))]; rfl
theorem up_filter {l:List GCall} (hu:Up l) (p:GCall → Bool):Up (l.filter p):=List.Pairwise.sublist List.filter_sublist hu
theorem up_put {l:List GCall} (hu:Up l) (s:List UInt8) (n:Int):Up (putL l s n):=by
  rw [putL_eq hu]
  refine List.pairwise_append.2 ⟨up_filter hu _,List.pairwise_cons.2 ⟨fun c hc=>(List.mem_filter.1 hc).2,up_filter hu _⟩,?_⟩
  intro a ha b hb
  have h1:ltS a.name s = true:=(List.mem_filter.1 ha).2
  rcases List.mem_cons.1 hb with rfl | hb
  · exact h1
  · exact ltS_trans h1 (List.mem_filter.1 hb).2
theorem mem_put {l:List GCall} (hu:Up l) {s:List UInt8} {n:Int} {c:GCall} (h:c ∈ putL l s n):c = ⟨s,n⟩ ∨ c ∈ l:=by
  rw [putL_eq hu] at h
  rcases List.mem_append.1 h with h | h
  · exact .inr (List.mem_filter.1 h).1
  · rcases List.mem_cons.1 h with h | h
    · exact .inl h
    · exact .inr (List.mem_filter.1 h).1
end Go.Kc
end
section
/- What fold.Step makes of a list that may be: it may be again. No condition. -/
namespace Go.Kc
theorem wB_word:∀ (l cur:List UInt8) (w:List UInt8),w ∈ wB l cur → w.length ≤ l.length + cur.length
  | [],cur,w,h=>by
    unfold wB at h
    split at h
    · cases h
    · obtain rfl:=List.mem_singleton.1 h; simp
  | c :: cs,cur,w,h=>by
    unfold wB at h
    split at h
    · split at h
      · have:=wB_word cs [] w h; simp at this ⊢; omega
      · rcases List.mem_cons.1 h with rfl | h
        · simp
        · have:=wB_word cs [] w h; simp at this ⊢; omega
    · have:=wB_word cs _ w h; simp at this ⊢; omega
theorem words_word {l w:List UInt8} (h:w ∈ words l):w.length ≤ l.length:=by
  rw [words_wB] at h; simpa using wB_word l [] w h
theorem nodup_len {α:Type} [DecidableEq α]:∀ {l t:List α},l.Nodup → (∀ x ∈ l,x ∈ t) → l.length ≤ t.length
  | [],_,_,_=>Nat.zero_le _
  | x :: l,t,hn,hs=>by
    have hn':=List.nodup_cons.1 hn
    have hx:=hs x List.mem_cons_self
    have h1:=nodup_len (t:=t.erase x) hn'.2 (fun y hy=>(List.mem_erase_of_ne (fun (e:y = x)=>hn'.1 (by rw [← e]; exact hy))).2 (hs y (List.mem_cons_of_mem _ hy)))
    have h2:=List.length_erase_of_mem hx
    have h3:0 < t.length:=List.length_pos_of_mem hx
    simp only [List.length_cons]; omega
theorem knownM_mem {s:List UInt8} (h:knownM s = true):s ∈ tab_calls.map (·.1):=by
  unfold knownM at h
  obtain ⟨x,hx⟩:=Option.isSome_iff_exists.1 h
  have h1:=List.mem_of_find?_eq_some hx
  have h2:=List.find?_some hx
  exact List.mem_map.2 ⟨x,h1,of_decide_eq_true h2⟩
theorem may_len {l:GList} (h:mayM l = true):l.calls.length ≤ 40:=by
  obtain ⟨_,h1,h2⟩:=(mayM_iff l).1 h
  have:=nodup_len (l:=l.calls.map (·.name)) (t:=tab_calls.map (·.1)) (List.pairwise_map.2 (List.Pairwise.imp (R:=fun a b:GCall=>ltS a.name b.name = true) (fun hab=>ltS_ne hab) h2)) (by
    intro x hx
    obtain ⟨c,hc,rfl⟩:=List.mem_map.1 hx
    have:=h1 c hc
    simp only [okC,Bool.and_eq_true] at this
    exact knownM_mem this.1)
  have e:(tab_calls.map (·.1)).length = 40:=by rw [List.length_map]; rfl
  rw [List.length_map] at this
  omega
theorem put_may {l:GList} (h:mayM l = true) (hm:l.mode ≠ 0) {n:List UInt8} {a:Int} (hk:knownM n = true) (ha:actM a = true):mayM (putM l n a) = true:=by
  obtain ⟨h0,h1,h2⟩:=(mayM_iff l).1 h
  have e:putM l n a = ⟨l.mode,putL l.calls n a⟩:=if_pos h
  rw [e,mayM_iff]
  refine ⟨⟨h0.1,.inl hm⟩,?_,up_put h2 _ _⟩
  intro c hc
  rcases mem_put h2 hc with rfl | hc
  · simp [okC,hk,ha]
  · exact h1 c hc
theorem take_may {l:GList} (h:mayM l = true) (n:List UInt8):mayM (takeM l n) = true:=by
  obtain ⟨h0,h1,h2⟩:=(mayM_iff l).1 h
  have e:takeM l n = ⟨l.mode,l.calls.filter fun c=>!decide (c.name = n)⟩:=if_pos h
  rw [e,mayM_iff]
  refine ⟨⟨h0.1,h0.2.imp id (fun hh=>by rw [hh]; rfl)⟩,fun c hc=>h1 c (List.mem_filter.1 hc).1,up_filter h2 _⟩
theorem stepN_may {l:GList} (h:mayM l = true) (hm:l.mode ≠ 0) {ins:Bool} {a:Int} {n:List UInt8} (hk:knownM n = true) (ha:actM a = true):mayM (stepN ins a l n) = true:=by
  unfold stepN; split
  · exact put_may h hm hk ha
  · exact take_may h n
theorem foldN_may {ins:Bool} {a:Int} (ha:actM a = true):∀ {ns:List (List UInt8)} {l:GList},mayM l = true → l.mode ≠ 0 → (∀ n ∈ ns,knownM n = true) → mayM (ns.foldl (stepN ins a) l) = true
  | [],_,h,_,_=>h
  | n :: ns,l,h,hm,hk=>by
    rw [List.foldl_cons]
    exact foldN_may ha (stepN_may h hm (hk n List.mem_cons_self) ha) (by rw [stepN_mode]; exact hm) (fun x hx=>hk x (List.mem_cons_of_mem _ hx))
theorem readM_act (w:List UInt8):actM (readM w).1.act = true:=by
  have h:=errnoM_ok (cutM w).2.1
  unfold readM
  repeat' split
  all_goals (simp [actM]; try omega)
def ExpOk (E:List UInt8 → List (List UInt8) × Int):Prop:=∀ s,(∀ n ∈ (E s).1,knownM n = true) ∧ (E s).1.length ≤ 100
theorem memM_ok {E:List UInt8 → List (List UInt8) × Int} (hE:ExpOk E):ExpOk (memM E):=by
  intro s
  unfold memM
  split
  · exact hE s
  · split
    · rename_i h; simp [h]
    · simp
theorem stepW_may {E:List UInt8 → List (List UInt8) × Int} (hE:ExpOk E) (fl t:Bool) {s:GList × List GNote} (h:mayM s.1 = true) (hm:s.1.mode ≠ 0) (w:List UInt8) :
    mayM (stepW E fl t s w).1 = true ∧ (stepW E fl t s w).1.mode = s.1.mode ∧ (stepW E fl t s w).2.length ≤ s.2.length + 1:=by
  have hk:=(memM_ok hE (readM w).1.name).1
  unfold stepW
  split
  · exact ⟨h,rfl,by simp⟩
  split
  · exact ⟨h,rfl,by simp⟩
  split
  · exact ⟨foldN_may (readM_act w) h hm hk,foldN_mode _ _ _ _,by simp⟩
  split
  · exact ⟨foldN_may (by rfl) h hm hk,foldN_mode _ _ _ _,by simp⟩
  · exact ⟨foldN_may (readM_act w) h hm hk,foldN_mode _ _ _ _,by simp⟩
theorem stepWs_may {E:List UInt8 → List (List UInt8) × Int} (hE:ExpOk E) (fl t:Bool):∀ (ws:List (List UInt8)) (s:GList × List GNote),mayM s.1 = true → s.1.mode ≠ 0 →
    mayM (ws.foldl (stepW E fl t) s).1 = true ∧ (ws.foldl (stepW E fl t) s).1.mode = s.1.mode ∧ (ws.foldl (stepW E fl t) s).2.length ≤ s.2.length + ws.length
  | [],s,h,_=>⟨h,rfl,Nat.le_refl _⟩
  | w :: ws,s,h,hm=>by
    obtain ⟨h1,h2,h3⟩:=stepW_may hE fl t h hm w
    obtain ⟨h4,h5,h6⟩:=stepWs_may hE fl t ws (stepW E fl t s w) h1 (by rw [h2]; exact hm)
    rw [List.foldl_cons]
    exact ⟨h4,by rw [h5,h2],by simp only [List.length_cons]; omega⟩
end Go.Kc
end
section
/- The table of groups; what groups.Expand answers of a name that is none of them. Condition: the functions' texts are these. -/
namespace Go.Kc
variable {P:Program} {f:Nat}
def tab_groups:List (List UInt8 × List (List UInt8)):=[([64,98,97,115,105,99,45,105,111],[[114,101,97,100],[119,114,105,116,101],[99,108,111,115,101]]),([64,99,108,111,99,107],[[99,108,111,99,107,95,115,101,116,116,105,109,101],[115,101,116,116,105,109,101,111,102,100,97,121]]),([64,100,101,98,117,103],[[112,116,114,97,99,101],[112,101,114,115,111,110,97,108,105,116,121]]),([64,102,105,108,101],[[64,98,97,115,105,99,45,105,111],[111,112,101,110],[111,112,101,110,97,116],[105,111,99,116,108]]),([64,109,101,109,111,114,121],[[98,114,107],[109,109,97,112],[109,112,114,111,116,101,99,116],[109,117,110,109,97,112],[112,107,101,121,95,109,112,114,111,116,101,99,116],[115,104,109,97,116]]),([64,109,111,100,117,108,101],[[100,101,108,101,116,101,95,109,111,100,117,108,101],[102,105,110,105,116,95,109,111,100,117,108,101],[105,110,105,116,95,109,111,100,117,108,101]]),([64,109,111,117,110,116],[[109,111,117,110,116],[117,109,111,117,110,116,50]]),([64,110,101,115,116],[[64,110,101,115,116,45,50],[107,105,108,108]]),([64,110,101,115,116,45,50],[[64,110,101,115,116,45,51],[103,101,116,117,105,100]]),([64,110,101,115,116,45,51],[[64,110,101,115,116,45,52],[115,101,116,117,105,100]]),([64,110,101,115,116,45,52],[[64,110,101,115,116,45,53],[101,120,105,116]]),([64,110,101,115,116,45,53],[[114,101,97,100]]),([64,110,101,116,119,111,114,107],[[98,105,110,100],[99,111,110,110,101,99,116],[108,105,115,116,101,110],[115,111,99,107,101,116]]),([64,112,114,105,118,105,108,101,103,101,100],[[64,99,108,111,99,107],[64,109,111,100,117,108,101],[64,109,111,117,110,116],[64,114,101,98,111,111,116],[98,112,102],[115,101,116,117,105,100]]),([64,112,114,111,99,101,115,115],[[99,108,111,110,101],[99,108,111,110,101,51],[101,120,101,99,118,101],[101,120,105,116],[102,111,114,107],[107,105,108,108],[115,101,116,110,115],[117,110,115,104,97,114,101]]),([64,114,101,98,111,111,116],[[114,101,98,111,111,116]]),([64,114,101,115,111,117,114,99,101,115],[[115,99,104,101,100,95,115,101,116,97,116,116,114],[115,99,104,101,100,95,115,101,116,115,99,104,101,100,117,108,101,114]]),([64,115,121,115,116,101,109],[[64,102,105,108,101],[64,109,101,109,111,114,121],[64,110,101,116,119,111,114,107],[64,112,114,111,99,101,115,115],[103,101,116,117,105,100]])]
def tab_exp:List (List UInt8 × List (List UInt8) × Int):=[([64,98,97,115,105,99,45,105,111],[[99,108,111,115,101],[114,101,97,100],[119,114,105,116,101]],0),([64,99,108,111,99,107],[[99,108,111,99,107,95,115,101,116,116,105,109,101],[115,101,116,116,105,109,101,111,102,100,97,121]],0),([64,100,101,98,117,103],[[112,101,114,115,111,110,97,108,105,116,121],[112,116,114,97,99,101]],0),([64,102,105,108,101],[[99,108,111,115,101],[105,111,99,116,108],[111,112,101,110],[111,112,101,110,97,116],[114,101,97,100],[119,114,105,116,101]],0),([64,109,101,109,111,114,121],[[98,114,107],[109,109,97,112],[109,112,114,111,116,101,99,116],[109,117,110,109,97,112],[112,107,101,121,95,109,112,114,111,116,101,99,116],[115,104,109,97,116]],0),([64,109,111,100,117,108,101],[[100,101,108,101,116,101,95,109,111,100,117,108,101],[102,105,110,105,116,95,109,111,100,117,108,101],[105,110,105,116,95,109,111,100,117,108,101]],0),([64,109,111,117,110,116],[[109,111,117,110,116],[117,109,111,117,110,116,50]],0),([64,110,101,115,116],[],111),([64,110,101,115,116,45,50],[[101,120,105,116],[103,101,116,117,105,100],[114,101,97,100],[115,101,116,117,105,100]],0),([64,110,101,115,116,45,51],[[101,120,105,116],[114,101,97,100],[115,101,116,117,105,100]],0),([64,110,101,115,116,45,52],[[101,120,105,116],[114,101,97,100]],0),([64,110,101,115,116,45,53],[[114,101,97,100]],0),([64,110,101,116,119,111,114,107],[[98,105,110,100],[99,111,110,110,101,99,116],[108,105,115,116,101,110],[115,111,99,107,101,116]],0),([64,112,114,105,118,105,108,101,103,101,100],[[98,112,102],[99,108,111,99,107,95,115,101,116,116,105,109,101],[100,101,108,101,116,101,95,109,111,100,117,108,101],[102,105,110,105,116,95,109,111,100,117,108,101],[105,110,105,116,95,109,111,100,117,108,101],[109,111,117,110,116],[114,101,98,111,111,116],[115,101,116,116,105,109,101,111,102,100,97,121],[115,101,116,117,105,100],[117,109,111,117,110,116,50]],0),([64,112,114,111,99,101,115,115],[[99,108,111,110,101],[99,108,111,110,101,51],[101,120,101,99,118,101],[101,120,105,116],[102,111,114,107],[107,105,108,108],[115,101,116,110,115],[117,110,115,104,97,114,101]],0),([64,114,101,98,111,111,116],[[114,101,98,111,111,116]],0),([64,114,101,115,111,117,114,99,101,115],[[115,99,104,101,100,95,115,101,116,97,116,116,114],[115,99,104,101,100,95,115,101,116,115,99,104,101,100,117,108,101,114]],0),([64,115,121,115,116,101,109],[[98,105,110,100],[98,114,107],[99,108,111,110,101],[99,108,111,110,101,51],[99,108,111,115,101],[99,111,110,110,101,99,116],[101,120,101,99,118,101],[101,120,105,116],[102,111,114,107],[103,101,116,117,105,100],[105,111,99,116,108],[107,105,108,108],[108,105,115,116,101,110],[109,109,97,112],[109,112,114,111,116,101,99,116],[109,117,110,109,97,112],[111,112,101,110],[111,112,101,110,97,116],[112,107,101,121,95,109,112,114,111,116,101,99,116],[114,101,97,100],[115,101,116,110,115],[115,104,109,97,116],[115,111,99,107,101,116],[117,110,115,104,97,114,101],[119,114,105,116,101]],0)]
def expG (s:List UInt8):List (List UInt8) × Int:=match tab_exp.find? (fun r=>decide (r.1 = s)) with | some r=>r.2 | none=>([],110)
theorem exp_names:tab_exp.map (·.1) = tab_groups.map (·.1):=rfl
theorem expG_ok:ExpOk expG:=by
  intro s
  unfold expG
  cases hf:tab_exp.find? (fun r=>decide (r.1 = s)) with
  | none=>simp
  | some r =>
    have hr:=List.mem_of_find?_eq_some hf
    have h1:tab_exp.all (fun r=>r.2.1.all knownM && decide (r.2.1.length ≤ 100)) = true:=by decide +kernel
    have h2:=List.all_eq_true.1 h1 r hr
    simp only [Bool.and_eq_true,decide_eq_true_eq,List.all_eq_true] at h2
    exact h2
def rowG (g:List UInt8 × List (List UInt8)):List AV:=[.s g.1,.fz g.2.length (rS g.2)]
theorem rowG_len (g:List UInt8 × List (List UInt8)):(rowG g).length = 2:=rfl
def cGroups (P:Program) (f:Nat):Prop:=Pure P f [] (.fz 18 (tab_groups.flatMap rowG))

def ir_groups_Members (f_groups_table:Nat):IFn:=⟨[.tmp 2],
  .seq (.reg false [⟨(some 2),.op (.mov (.c (.nils))),none⟩])
  (.seq (.seq (.reg false [⟨(some 5),.callF f_groups_table [],none⟩,
    ⟨(some 6),.op (.len false (.t 5)),none⟩,
    ⟨(some 7),.op (.mov (.c (.i .i64 0))),none⟩])
  (.blk 0 (.loop (.seq (.reg false [⟨(some 8),.op (.bin .lss (.t 7) (.t 6)),none⟩])
  (.seq (.cond (.t 8) (.skip) (.exit 0))
  (.seq (.blk 1 (.seq (.reg false [⟨(some 9),.op (.iAddrS 2 (.t 5) (.t 7)),none⟩,
    ⟨(some 10),.op (.loadN 2 (.t 9)),none⟩,
    ⟨(some 4),.op (.alloc [.s [],.nils]),none⟩,
    ⟨none,.op (.store 2 (.t 4) (.t 10)),none⟩])
  (.seq (.reg false [⟨(some 11),.op (.fAddr 0 (.t 4)),none⟩,
    ⟨(some 12),.op (.load1 (.t 11)),none⟩,
    ⟨(some 13),.op (.mov (.t 0)),none⟩,
    ⟨(some 14),.op (.bin .eql (.t 12) (.t 13)),none⟩])
  (.cond (.t 14) (.seq (.reg false [⟨(some 15),.op (.fAddr 1 (.t 4)),none⟩,
    ⟨(some 16),.op (.load1 (.t 15)),none⟩,
    ⟨(some 2),.op (.mov (.t 16)),none⟩])
  (.ret)) (.skip)))))
  (.reg false [⟨(some 17),.op (.bin .add (.t 7) (.c (.i .i64 1))),none⟩,
    ⟨(some 7),.op (.mov (.t 17)),none⟩])))))))
  (.seq (.reg false [⟨(some 2),.op (.mov (.c (.nils))),none⟩])
  (.ret)))⟩
theorem members_none {g1:Nat} (hc:chkFn P f (ir_groups_Members g1) = true) (h1:cGroups P g1) (s:List UInt8) (hs:∀ r ∈ tab_groups,r.1 ≠ s):Pure P f [.s s] .nils:=by
  refine Pure.mk hc rfl ?_
  simp only [ir_groups_Members,argsT,H0,mkT,mkH,trL,List.length_cons,List.length_nil,Nat.reduceAdd,Nat.zero_add]
  simp only [↓vS,cvF_pc,vP,shb,shv,shvs,she_nil,she_cons,vC,vQ,Nat.reduceEqDiff,↓reduceIte,eq_self,Nat.reduceAdd,Nat.reduceMul,Nat.reduceSub,Nat.reduceLeDiff,Nat.reduceLT,defd,cellsOf,wr,packR,Int.reduceLE,Int.reduceLT,Int.reduceEq,Int.cast_ofNat_Int,Int.reduceToNat]
  refine h1.sc ?_
  have hlen:(tab_groups.flatMap rowG).length = 36:=by decide
  have hcl:clos (tab_groups.flatMap rowG) = true:=clos_flat fun _=>rfl
  have h18:tab_groups.length = 18:=by decide
  have hget:∀ j (h:j < 18),∃ r ∈ tab_groups,((tab_groups.flatMap rowG).drop (j * 2)).take 2 = rowG r:=by
    intro j h
    have hx:tab_groups[j]? = some (tab_groups[j]'(by omega)):=List.getElem?_eq_getElem (by omega)
    exact ⟨_,List.getElem_mem _,flat_elem (f:=rowG) (m:=2) rowG_len hx⟩
  generalize hT:tab_groups.flatMap rowG = T at hlen hcl hget
  simp only [↓vS,cvF_pc,vP,shb,shv,shvs,she_nil,she_cons,vC,vQ,Nat.reduceEqDiff,↓reduceIte,eq_self,Nat.reduceAdd,Nat.reduceMul,Nat.reduceSub,Nat.reduceLeDiff,Nat.reduceLT,defd,cellsOf,wr,packR,Int.reduceLE,Int.reduceLT,Int.reduceEq,Int.cast_ofNat_Int,Int.reduceToNat]
  refine SL.loop (α:=Nat) (fun j=>[(0,.s s),(2,.nils),(5,.fz 18 T),(6,.i .i64 18),(7,.i .i64 j)]) (fun _=>[]) (fun j=>j ≤ 18) (fun j=>18 - j) 0 [] ?_ ?_ ?_ rfl ?_ ?_
  · simp [vW,bw_map,mapAt_map,mapClo_it,mapClo_nil,mapClo_cons,vP,vZ,Tr.get_set,hcl]
  · trivial
  · simp
  · exact Nat.zero_le _
  rintro j hj G ih
  simp only [argsT,H0,mkT,mkH,trL,List.length_cons,List.length_nil,Nat.reduceAdd,Nat.zero_add]
  by_cases hlt:j < 18
  · have hw:IntKind.wrap .i64 ((j:Int) + 1) = ((j + 1:Nat):Int):=by rw [wrap64 (by omega) (by omega)]; omega
    have hlt':(j:Int) < 18:=by omega
    have hb:j * 2 + 2 ≤ 36:=by omega
    obtain ⟨r,hr,he⟩:=hget j hlt
    have hne:¬ r.1 = s:=hs r hr
    simp only [↓vS,cvF_pc,vP,shb,shv,shvs,she_nil,she_cons,vC,vQ,Nat.reduceEqDiff,↓reduceIte,eq_self,Nat.reduceAdd,Nat.reduceMul,Nat.reduceSub,Nat.reduceLeDiff,Nat.reduceLT,defd,cellsOf,wr,packR,Int.reduceLE,Int.reduceLT,Int.reduceEq,Int.cast_ofNat_Int,Int.reduceToNat,hlt,hlt',hb,he,hlen,rowG]
    simp only [↓vS,cvF_pc,vP,shb,shv,shvs,she_nil,she_cons,vC,vQ,Nat.reduceEqDiff,↓reduceIte,eq_self,Nat.reduceAdd,Nat.reduceMul,Nat.reduceSub,Nat.reduceLeDiff,Nat.reduceLT,defd,cellsOf,wr,packR,Int.reduceLE,Int.reduceLT,Int.reduceEq,Int.cast_ofNat_Int,Int.reduceToNat,hne,hw]
    refine ih (j + 1) (by omega) (by omega) _ _ (Wk.mk _ _ [] ?_ ?_ ?_ rfl)
    · simp [vW,bw_map,mapAt_map,mapClo_it,mapClo_nil,mapClo_cons,vP,vZ,Tr.get_set,hcl]
    · trivial
    · simp
  · have hlt':¬ (j:Int) < 18:=by omega
    simp only [↓vS,cvF_pc,vP,shb,shv,shvs,she_nil,she_cons,vC,vQ,Nat.reduceEqDiff,↓reduceIte,eq_self,Nat.reduceAdd,Nat.reduceMul,Nat.reduceSub,Nat.reduceLeDiff,Nat.reduceLT,defd,cellsOf,wr,packR,Int.reduceLE,Int.reduceLT,Int.reduceEq,Int.cast_ofNat_Int,Int.reduceToNat,hlt']
    simp [vZ]
def ir_groups_Known (f_groups_Members:Nat):IFn:=⟨[.tmp 2],
  .seq (.reg false [⟨(some 2),.op (.mov (.c (.b false))),none⟩])
  (.seq (.reg false [⟨(some 3),.op (.mov (.t 0)),none⟩,
    ⟨(some 4),.callF f_groups_Members [(.t 3)],none⟩,
    ⟨(some 5),.op (.eqN true .slice (.t 4)),none⟩,
    ⟨(some 2),.op (.mov (.t 5)),none⟩])
  (.ret))⟩
theorem gknown_none {g1:Nat} (hc:chkFn P f (ir_groups_Known g1) = true) (s:List UInt8) (h1:Pure P g1 [.s s] .nils):Pure P f [.s s] (.b false):=by
  refine Pure.mk hc rfl ?_
  simp only [ir_groups_Known,argsT,H0,mkT,mkH,trL,List.length_cons,List.length_nil,Nat.reduceAdd,Nat.zero_add]
  simp only [↓vS,cvF_pc,vP,shb,shv,shvs,she_nil,she_cons,vC,vQ,Nat.reduceEqDiff,↓reduceIte,eq_self,Nat.reduceAdd,Nat.reduceMul,Nat.reduceSub,Nat.reduceLeDiff,Nat.reduceLT,defd,cellsOf,wr,packR,Int.reduceLE,Int.reduceLT,Int.reduceEq,Int.cast_ofNat_Int,Int.reduceToNat]
  refine h1.sc ?_
  simp only [↓vS,cvF_pc,vP,shb,shv,shvs,she_nil,she_cons,vC,vQ,Nat.reduceEqDiff,↓reduceIte,eq_self,Nat.reduceAdd,Nat.reduceMul,Nat.reduceSub,Nat.reduceLeDiff,Nat.reduceLT,defd,cellsOf,wr,packR,Int.reduceLE,Int.reduceLT,Int.reduceEq,Int.cast_ofNat_Int,Int.reduceToNat]
  simp [vZ]
def ir_groups_Expand (f_groups_Known f_groups_Deep f_groups_Expand_1 f_slices_Sort_string_string f_slices_Compact_string_string:Nat):IFn:=⟨[.tmp 2,.tmp 3],
  .seq (.reg false [⟨(some 2),.op (.mov (.c (.nils))),none⟩,
    ⟨(some 3),.op (.mov (.c (.i .i64 0))),none⟩])
  (.seq (.blk 0 (.seq (.reg false [⟨(some 7),.op (.mov (.t 0)),none⟩,
    ⟨(some 8),.callF f_groups_Known [(.t 7)],none⟩,
    ⟨(some 9),.op (.un .not (.t 8)),none⟩,
    ⟨(some 6),.op (.mov (.t 9)),none⟩])
  (.cond (.t 6) (.seq (.reg false [⟨(some 2),.op (.mov (.c (.nils))),none⟩,
    ⟨(some 3),.op (.mov (.c (.i .i64 110))),none⟩])
  (.ret)) (.seq (.reg false [⟨(some 11),.op (.mov (.t 0)),none⟩,
    ⟨(some 12),.callF f_groups_Deep [(.t 11)],none⟩,
    ⟨(some 13),.op (.bin .gtr (.t 12) (.c (.i .i64 4))),none⟩,
    ⟨(some 10),.op (.mov (.t 13)),none⟩])
  (.cond (.t 10) (.seq (.reg false [⟨(some 2),.op (.mov (.c (.nils))),none⟩,
    ⟨(some 3),.op (.mov (.c (.i .i64 111))),none⟩])
  (.ret)) (.skip))))))
  (.seq (.reg false [⟨(some 4),.op (.alloc [.nils]),none⟩])
  (.seq (.reg false [⟨(some 5),.op (.alloc [.nilf]),none⟩])
  (.seq (.reg false [⟨(some 14),.op (.mkF f_groups_Expand_1 [] [(.t 5),(.t 4)]),none⟩,
    ⟨none,.op (.store 1 (.t 5) (.t 14)),none⟩])
  (.seq (.reg false [⟨(some 15),.op (.load1 (.t 5)),none⟩,
    ⟨(some 16),.op (.mov (.t 0)),none⟩,
    ⟨(some 17),.callV (.t 15) [(.t 16)],none⟩])
  (.seq (.reg false [⟨(some 18),.op (.load1 (.t 4)),none⟩,
    ⟨(some 19),.callF f_slices_Sort_string_string [(.t 18)],none⟩])
  (.seq (.reg false [⟨(some 20),.op (.load1 (.t 4)),none⟩,
    ⟨(some 21),.callF f_slices_Compact_string_string [(.t 20)],none⟩,
    ⟨(some 2),.op (.mov (.t 21)),none⟩,
    ⟨(some 3),.op (.mov (.c (.i .i64 0))),none⟩])
  (.ret))))))))⟩
theorem expand_none {g1 g2 g3 g4 g5:Nat} (hc:chkFn P f (ir_groups_Expand g1 g2 g3 g4 g5) = true) (s:List UInt8) (h1:Pure P g1 [.s s] (.b false)):Pure P f [.s s] (.tup [.fz 0 [],.i .i64 110]):=by
  refine Pure.mk hc rfl ?_
  simp only [ir_groups_Expand,argsT,H0,mkT,mkH,trL,List.length_cons,List.length_nil,Nat.reduceAdd,Nat.zero_add]
  simp only [↓vS,cvF_pc,vP,shb,shv,shvs,she_nil,she_cons,vC,vQ,Nat.reduceEqDiff,↓reduceIte,eq_self,Nat.reduceAdd,Nat.reduceMul,Nat.reduceSub,Nat.reduceLeDiff,Nat.reduceLT,defd,cellsOf,wr,packR,Int.reduceLE,Int.reduceLT,Int.reduceEq,Int.cast_ofNat_Int,Int.reduceToNat]
  refine h1.sc ?_
  simp only [↓vS,cvF_pc,vP,shb,shv,shvs,she_nil,she_cons,vC,vQ,Nat.reduceEqDiff,↓reduceIte,eq_self,Nat.reduceAdd,Nat.reduceMul,Nat.reduceSub,Nat.reduceLeDiff,Nat.reduceLT,defd,cellsOf,wr,packR,Int.reduceLE,Int.reduceLT,Int.reduceEq,Int.cast_ofNat_Int,Int.reduceToNat]
  simp [vZ]
theorem expand_exp {g1 g2 g3 g4 g5 k1 k2:Nat} (hc:chkFn P f (ir_groups_Expand g1 g2 g3 g4 g5) = true) (hk:chkFn P g1 (ir_groups_Known k1) = true) (hm:chkFn P k1 (ir_groups_Members k2) = true) (ht:cGroups P k2)
    (hrun:∀ r ∈ tab_exp,Pure P f [.s r.1] (.tup [.fz r.2.1.length (rS r.2.1),.i .i64 r.2.2])):cExp expG P f:=by
  intro s
  unfold expG
  cases hf:tab_exp.find? (fun r=>decide (r.1 = s)) with
  | none =>
    refine expand_none hc s (gknown_none hk s (members_none hm ht s ?_))
    intro r hr he
    have h1:r.1 ∈ tab_exp.map (·.1):=by rw [exp_names]; exact List.mem_map.2 ⟨r,hr,rfl⟩
    obtain ⟨x,hx,hxe⟩:=List.mem_map.1 h1
    have:=List.find?_eq_none.1 hf x hx
    simp [hxe,he] at this
  | some r =>
    have hr:=List.mem_of_find?_eq_some hf
    have he:=List.find?_some hf
    have he':r.1 = s:=of_decide_eq_true he
    rw [← he']
    exact hrun r hr
end Go.Kc
end
section
/- A list's value as a row of puts and takes; twice is as once. No condition. -/
namespace Go.Kc
variable (E:List UInt8 → List (List UInt8) × Int)
noncomputable def stepO (l:GList) (o:List UInt8 × Option Int):GList:=match o.2 with | some a=>putM l o.1 a | none=>takeM l o.1
noncomputable def opsW (fl t:Bool) (mode:Int) (w:List UInt8):List (List UInt8 × Option Int) :=
  if (readM w).2 ≠ 0 then [] else if (memM E (readM w).1.name).2 ≠ 0 then []
  else (memM E (readM w).1.name).1.map fun n=>(n,if (readM w).1.has = true ∧ fl = true ∧ t = true then some (readM w).1.act else if mode - 1 = (if t = true then 1 else 0) then some 0 else none)
noncomputable def notesW (fl t:Bool) (w:List UInt8):List GNote :=
  if (readM w).2 ≠ 0 then [noteW (readM w).2 w] else if (memM E (readM w).1.name).2 ≠ 0 then [noteW (memM E (readM w).1.name).2 w]
  else if (readM w).1.has = true ∧ (fl = false ∨ t = false) then [noteW 161 w] else []
theorem readM_act0 (w:List UInt8) (h:(readM w).1.has = false):(readM w).1.act = 0:=by
  unfold readM at h ⊢
  split at h
  · rename_i h1; rw [if_pos h1]
  · rename_i h1
    rw [if_neg h1]
    split at h
    · rename_i h2; rw [if_pos h2]
    · rename_i h2
      rw [if_neg h2]
      split at h
      · cases h
      · rename_i h3
        rw [if_neg h3]
        split at h
        · cases h
        · rename_i h4; rw [if_neg h4]
theorem foldN_ops (ins:Bool) (a:Int):∀ (ns:List (List UInt8)) (l:GList),ns.foldl (stepN ins a) l = (ns.map fun n=>(n,if ins = true then some a else none)).foldl stepO l
  | [],_=>rfl
  | n :: ns,l=>by
    rw [List.foldl_cons,List.map_cons,List.foldl_cons,foldN_ops ins a ns]
    congr 1
    cases ins <;> rfl
theorem stepW_ops (fl t:Bool) (s:GList × List GNote) (w:List UInt8):stepW E fl t s w = ((opsW E fl t s.1.mode w).foldl stepO s.1,s.2 ++ notesW E fl t w):=by
  unfold stepW opsW notesW
  by_cases h1:(readM w).2 ≠ 0
  · simp only [if_pos h1,List.foldl_nil]
  simp only [if_neg h1]
  by_cases h2:(memM E (readM w).1.name).2 ≠ 0
  · simp only [if_pos h2,List.foldl_nil]
  simp only [if_neg h2]
  cases h3:(readM w).1.has with
  | false =>
    have ha:=readM_act0 w h3
    simp only [if_true,foldN_ops,ha,decide_eq_true_eq,Bool.false_eq_true,false_and,if_false,List.append_nil]
  | true =>
    simp only [Bool.true_eq_false,if_false,true_and]
    by_cases h4:fl = false ∨ t = false
    · have h5:¬ (fl = true ∧ t = true):=by intro h; rcases h4 with h4 | h4 <;> simp [h4] at h
      simp only [if_pos h4,if_neg h5,foldN_ops,decide_eq_true_eq]
    · have h5:fl = true ∧ t = true:=by cases fl <;> cases t <;> simp_all
      simp only [if_neg h4,if_pos h5,foldN_ops,if_true,List.append_nil]
theorem foldO_mode:∀ (os:List (List UInt8 × Option Int)) (l:GList),(os.foldl stepO l).mode = l.mode
  | [],_=>rfl
  | o :: os,l=>by
    rw [List.foldl_cons,foldO_mode os]
    unfold stepO; split
    · exact putM_mode _ _ _
    · exact takeM_mode _ _
theorem stepWs_ops (fl t:Bool):∀ (ws:List (List UInt8)) (s:GList × List GNote),ws.foldl (stepW E fl t) s = ((ws.flatMap (opsW E fl t s.1.mode)).foldl stepO s.1,s.2 ++ ws.flatMap (notesW E fl t))
  | [],s=>by simp
  | w :: ws,s=>by
    rw [List.foldl_cons,stepW_ops,stepWs_ops fl t ws]
    simp only [foldO_mode,List.flatMap_cons,List.foldl_append,List.append_assoc]
def okO (o:List UInt8 × Option Int):Prop:=knownM o.1 = true ∧ ∀ a,o.2 = some a → actM a = true
theorem opsW_ok {E:List UInt8 → List (List UInt8) × Int} (hE:ExpOk E) (fl t:Bool) (mode:Int) (w:List UInt8):∀ o ∈ opsW E fl t mode w,okO o:=by
  intro o ho
  unfold opsW at ho
  split at ho
  · cases ho
  split at ho
  · cases ho
  obtain ⟨n,hn,rfl⟩:=List.mem_map.1 ho
  refine ⟨(memM_ok hE _).1 n hn,?_⟩
  intro a ha
  dsimp only at ha
  by_cases h1:(readM w).1.has = true ∧ fl = true ∧ t = true
  · rw [if_pos h1] at ha; cases ha; exact readM_act w
  · rw [if_neg h1] at ha
    by_cases h2:mode - 1 = (if t = true then 1 else 0)
    · rw [if_pos h2] at ha; cases ha; rfl
    · rw [if_neg h2] at ha; cases ha
theorem stepO_may {l:GList} (h:mayM l = true) (hm:l.mode ≠ 0) {o:List UInt8 × Option Int} (ho:okO o):mayM (stepO l o) = true ∧ (stepO l o).mode = l.mode ∧ ∀ t,findC (stepO l o).calls t = if t = o.1 then o.2.map (fun a=>⟨t,a⟩) else findC l.calls t:=by
  obtain ⟨n,a⟩:=o
  have hu:=((mayM_iff l).1 h).2.2
  cases a with
  | some a =>
    refine ⟨put_may h hm ho.1 (ho.2 a rfl),putM_mode _ _ _,fun t=>?_⟩
    have e:stepO l (n,some a) = ⟨l.mode,putL l.calls n a⟩:=if_pos h
    rw [e]
    dsimp only
    rw [findC_put hu]
    by_cases ht:t = n <;> simp [ht]
  | none =>
    refine ⟨take_may h _,takeM_mode _ _,fun t=>?_⟩
    have e:stepO l (n,none) = ⟨l.mode,l.calls.filter fun c=>!decide (c.name = n)⟩:=if_pos h
    rw [e]
    dsimp only
    rw [findC_take]
    by_cases ht:t = n <;> simp [ht]
def lastO:List (List UInt8 × Option Int) → List UInt8 → Option (Option Int)
  | [],_=>none
  | o :: os,t=>(lastO os t).or (if t = o.1 then some o.2 else none)
theorem lastO_cons (o:List UInt8 × Option Int) (os:List (List UInt8 × Option Int)) (t:List UInt8):lastO (o :: os) t = (lastO os t).or (if t = o.1 then some o.2 else none):=rfl
theorem foldO_may:∀ {os:List (List UInt8 × Option Int)} {l:GList},mayM l = true → l.mode ≠ 0 → (∀ o ∈ os,okO o) →
    mayM (os.foldl stepO l) = true ∧ ∀ t,findC (os.foldl stepO l).calls t = match lastO os t with | some a=>a.map (fun a=>⟨t,a⟩) | none=>findC l.calls t
  | [],l,h,_,_=>⟨h,fun _=>rfl⟩
  | o :: os,l,h,hm,ho=>by
    obtain ⟨h1,h2,h3⟩:=stepO_may h hm (ho o List.mem_cons_self)
    obtain ⟨h4,h5⟩:=foldO_may (os:=os) h1 (by rw [h2]; exact hm) (fun x hx=>ho x (List.mem_cons_of_mem _ hx))
    refine ⟨h4,fun t=>?_⟩
    rw [List.foldl_cons,h5 t]
    rw [lastO_cons]
    cases lastO os t with
    | some a=>rfl
    | none =>
      dsimp only
      rw [h3 t]
      by_cases ht:t = o.1
      · rw [if_pos ht,if_pos ht]; rfl
      · rw [if_neg ht,if_neg ht]; rfl
def modeM (m:Int) (t:Bool):Int:=if m = 0 then (if t = true then 2 else 1) else m
theorem modeM_pos (m:Int) (t:Bool):modeM m t ≠ 0:=by
  unfold modeM
  by_cases h:m = 0
  · cases t <;> simp [h]
  · simp [h]
variable {E}
theorem may_mode {l:GList} (h:mayM l = true) (t:Bool):mayM ⟨modeM l.mode t,l.calls⟩ = true:=by
  obtain ⟨h1,h2⟩:=(mayM_iff l).1 h
  refine (mayM_iff _).2 ⟨⟨?_,.inl (modeM_pos _ _)⟩,h2⟩
  unfold modeM; dsimp only
  split
  · split <;> omega
  · exact h1.1
theorem stepM_eq {l:GList} {v:List UInt8} {fl:Bool} (h:mayM l = true) (hw:words v ≠ []):stepM E l v fl =
    (((words (turnP v).1).flatMap (opsW E fl (turnP v).2 (modeM l.mode (turnP v).2))).foldl stepO ⟨modeM l.mode (turnP v).2,l.calls⟩,(words (turnP v).1).flatMap (notesW E fl (turnP v).2)):=by
  unfold stepM
  rw [if_neg (by simp [h]),if_neg hw,stepWs_ops]
  rfl
theorem stepM_may (hE:ExpOk E) {l:GList} (h:mayM l = true) (v:List UInt8) (fl:Bool):mayM (stepM E l v fl).1 = true:=by
  by_cases hw:words v = []
  · unfold stepM; rw [if_neg (by simp [h]),if_pos hw]; rfl
  · rw [stepM_eq h hw]
    refine (foldO_may (may_mode h _) (modeM_pos _ _) ?_).1
    intro o ho
    obtain ⟨w,_,hw⟩:=List.mem_flatMap.1 ho
    exact opsW_ok hE _ _ _ w o hw
theorem stepM_mode {l:GList} (h:mayM l = true) {v:List UInt8} (fl:Bool) (hw:words v ≠ []):(stepM E l v fl).1.mode = modeM l.mode (turnP v).2:=by
  rw [stepM_eq h hw]; exact foldO_mode _ _
theorem stepM_none {l:GList} (h:mayM l = true) {v:List UInt8} (fl:Bool) (hw:words v = []):stepM E l v fl = (⟨0,[]⟩,[]):=by
  unfold stepM; rw [if_neg (by simp [h]),if_pos hw]
theorem foldO_len:∀ (fl t:Bool) (ws:List (List UInt8)),(ws.flatMap (notesW E fl t)).length ≤ ws.length
  | _,_,[]=>Nat.le_refl _
  | fl,t,w :: ws=>by
    have h:=foldO_len fl t ws
    have h2:(notesW E fl t w).length ≤ 1:=by
      unfold notesW
      repeat' split
      all_goals simp
    simp only [List.flatMap_cons,List.length_append,List.length_cons]; omega
theorem stepM_len (l:GList) (v:List UInt8) (fl:Bool):(stepM E l v fl).2.length ≤ v.length:=by
  unfold stepM
  split
  · simp
  split
  · simp
  · rw [stepWs_ops]
    have h1:=foldO_len (E:=E) fl (turnP v).2 (words (turnP v).1)
    have h2:=words_len (turnP v).1
    have h3:=turnP_len v
    simp only [List.nil_append]; omega
end Go.Kc
end
section
/- What fold.Step answers. Condition: the functions' texts are these. -/
namespace Go.Kc
variable {P:Program} {f:Nat}
def ir_fold_Step_c111 (f_fold_copied f_fold_May f_values_Words f_values_Turned f_fold_Step_1 f_values_Read f_fold_members f_fold_ins f_fold_Put f_fold_Take:Nat):ICode:=.reg false [⟨(some 111),.op (.bin .add (.t 48) (.c (.i .i64 1))),none⟩,
    ⟨(some 48),.op (.mov (.t 111)),none⟩]
def ir_fold_Step_c95 (f_fold_copied f_fold_May f_values_Words f_values_Turned f_fold_Step_1 f_values_Read f_fold_members f_fold_ins f_fold_Put f_fold_Take:Nat):ICode:=.seq (.reg false [⟨(some 95),.op (.mov (.t 17)),none⟩,
    ⟨(some 96),.op (.len false (.t 95)),none⟩,
    ⟨(some 97),.op (.mov (.c (.i .i64 0))),none⟩])
  (.blk 3 (.loop (.seq (.reg false [⟨(some 98),.op (.bin .lss (.t 97) (.t 96)),none⟩])
  (.seq (.cond (.t 98) (.skip) (.exit 3))
  (.seq (.blk 4 (.seq (.reg false [⟨(some 99),.op (.iAddrS 1 (.t 95) (.t 97)),none⟩,
    ⟨(some 100),.op (.load1 (.t 99)),none⟩,
    ⟨(some 20),.op (.mov (.t 100)),none⟩])
  (.seq (.reg false [⟨(some 101),.op (.mov (.t 18)),none⟩])
  (.cond (.t 101) (.reg false [⟨(some 102),.op (.loadN 2 (.t 3)),none⟩,
    ⟨(some 103),.op (.mov (.t 20)),none⟩,
    ⟨(some 104),.op (.fAddr 1 (.t 15)),none⟩,
    ⟨(some 105),.op (.load1 (.t 104)),none⟩,
    ⟨(some 106),.callF f_fold_Put [(.t 102),(.t 103),(.t 105)],none⟩,
    ⟨none,.op (.store 2 (.t 3) (.t 106)),none⟩]) (.reg false [⟨(some 107),.op (.loadN 2 (.t 3)),none⟩,
    ⟨(some 108),.op (.mov (.t 20)),none⟩,
    ⟨(some 109),.callF f_fold_Take [(.t 107),(.t 108)],none⟩,
    ⟨none,.op (.store 2 (.t 3) (.t 109)),none⟩])))))
  (.reg false [⟨(some 110),.op (.bin .add (.t 97) (.c (.i .i64 1))),none⟩,
    ⟨(some 97),.op (.mov (.t 110)),none⟩]))))))
def ir_fold_Step_c9 (f_fold_copied f_fold_May f_values_Words f_values_Turned f_fold_Step_1 f_values_Read f_fold_members f_fold_ins f_fold_Put f_fold_Take:Nat):ICode:=.seq (.seq (.reg false [⟨(some 45),.op (.mov (.t 8)),none⟩,
    ⟨(some 46),.callF f_values_Words [(.t 45)],none⟩,
    ⟨(some 47),.op (.len false (.t 46)),none⟩,
    ⟨(some 48),.op (.mov (.c (.i .i64 0))),none⟩])
  (.blk 0 (.loop (.seq (.reg false [⟨(some 49),.op (.bin .lss (.t 48) (.t 47)),none⟩])
  (.seq (.cond (.t 49) (.skip) (.exit 0))
  (.seq (.blk 1 (.seq (.reg false [⟨(some 50),.op (.iAddrS 1 (.t 46) (.t 48)),none⟩,
    ⟨(some 51),.op (.load1 (.t 50)),none⟩,
    ⟨(some 13),.op (.alloc [.s []]),none⟩,
    ⟨none,.op (.store 1 (.t 13) (.t 51)),none⟩])
  (.seq (.reg false [⟨(some 52),.op (.mkF f_fold_Step_1 [] [(.t 11),(.t 13)]),none⟩,
    ⟨(some 14),.op (.mov (.t 52)),none⟩])
  (.seq (.reg false [⟨(some 54),.op (.load1 (.t 13)),none⟩,
    ⟨(some 55),.callF f_values_Read [(.t 54)],none⟩,
    ⟨(some 53),.op (.mov (.t 55)),none⟩,
    ⟨(some 56),.op (.ext (.t 53) 0),none⟩,
    ⟨(some 57),.op (.ext (.t 53) 1),none⟩,
    ⟨(some 15),.op (.alloc [.s [],.i .u32 0,.b false]),none⟩,
    ⟨none,.op (.store 3 (.t 15) (.t 56)),none⟩,
    ⟨(some 16),.op (.mov (.t 57)),none⟩])
  (.seq (.seq (.reg false [⟨(some 58),.op (.mov (.t 16)),none⟩,
    ⟨(some 59),.op (.bin .neq (.t 58) (.c (.i .i64 0))),none⟩])
  (.cond (.t 59) (.seq (.reg false [⟨(some 60),.op (.mov (.t 14)),none⟩,
    ⟨(some 61),.op (.mov (.t 16)),none⟩,
    ⟨(some 62),.callV (.t 60) [(.t 61)],none⟩])
  (.exit 1)) (.skip)))
  (.seq (.reg false [⟨(some 64),.op (.fAddr 0 (.t 15)),none⟩,
    ⟨(some 65),.op (.load1 (.t 64)),none⟩,
    ⟨(some 66),.callF f_fold_members [(.t 65)],none⟩,
    ⟨(some 63),.op (.mov (.t 66)),none⟩,
    ⟨(some 67),.op (.ext (.t 63) 0),none⟩,
    ⟨(some 68),.op (.ext (.t 63) 1),none⟩,
    ⟨(some 17),.op (.mov (.t 67)),none⟩,
    ⟨(some 16),.op (.mov (.t 68)),none⟩])
  (.seq (.seq (.reg false [⟨(some 69),.op (.mov (.t 16)),none⟩,
    ⟨(some 70),.op (.bin .neq (.t 69) (.c (.i .i64 0))),none⟩])
  (.cond (.t 70) (.seq (.reg false [⟨(some 71),.op (.mov (.t 14)),none⟩,
    ⟨(some 72),.op (.mov (.t 16)),none⟩,
    ⟨(some 73),.callV (.t 71) [(.t 72)],none⟩])
  (.exit 1)) (.skip)))
  (.seq (.reg true [⟨(some 74),.callF f_fold_ins [],none⟩,
    ⟨(some 75),.op (.fAddr 0 (.t 3)),none⟩,
    ⟨(some 76),.op (.load1 (.t 75)),none⟩,
    ⟨(some 77),.op (.bin .sub (.t 76) (.c (.i .u8 1))),none⟩,
    ⟨(some 78),.op (.idxA 2 2 true (.t 74) (.t 77)),none⟩,
    ⟨(some 79),.op (.mov (.t 10)),none⟩,
    ⟨(some 80),.op (.idxA 2 1 false (.t 78) (.t 79)),none⟩,
    ⟨(some 18),.op (.mov (.t 80)),none⟩])
  (.seq (.blk 2 (.seq (.reg false [⟨(some 82),.op (.fAddr 2 (.t 15)),none⟩,
    ⟨(some 83),.op (.load1 (.t 82)),none⟩,
    ⟨(some 84),.op (.un .not (.t 83)),none⟩,
    ⟨(some 81),.op (.mov (.t 84)),none⟩])
  (.cond (.t 81) (.skip) (.seq (.reg false [⟨(some 86),.op (.mov (.t 2)),none⟩,
    ⟨(some 87),.op (.un .not (.t 86)),none⟩,
    ⟨(some 88),.op (.mov (.t 87)),none⟩,
    ⟨(some 89),.op (.mov (.t 9)),(some (88,false))⟩,
    ⟨(some 90),.op (.un .not (.t 89)),(some (88,false))⟩,
    ⟨(some 91),.op (.pick (.t 88) (.c (.b true)) (.t 90)),none⟩,
    ⟨(some 85),.op (.mov (.t 91)),none⟩])
  (.cond (.t 85) (.seq (.reg false [⟨(some 92),.op (.mov (.t 14)),none⟩,
    ⟨(some 93),.callV (.t 92) [(.c (.i .i64 161))],none⟩])
  (.reg false [⟨(some 94),.op (.fAddr 1 (.t 15)),none⟩,
    ⟨none,.op (.store 1 (.t 94) (.c (.i .u32 0))),none⟩])) (.reg false [⟨(some 18),.op (.mov (.c (.b true))),none⟩]))))))
  (.cut (ir_fold_Step_c95 f_fold_copied f_fold_May f_values_Words f_values_Turned f_fold_Step_1 f_values_Read f_fold_members f_fold_ins f_fold_Put f_fold_Take)))))))))))
  (.cut (ir_fold_Step_c111 f_fold_copied f_fold_May f_values_Words f_values_Turned f_fold_Step_1 f_values_Read f_fold_members f_fold_ins f_fold_Put f_fold_Take))))))))
  (.seq (.reg true [⟨(some 112),.op (.loadN 2 (.t 3)),none⟩,
    ⟨(some 113),.op (.load1 (.t 11)),none⟩,
    ⟨none,.op (.storeD 2 (.t 6) (.t 112) [11]),none⟩,
    ⟨(some 7),.op (.mov (.t 113)),none⟩])
  (.ret))
def ir_fold_Step (f_fold_copied f_fold_May f_values_Words f_values_Turned f_fold_Step_1 f_values_Read f_fold_members f_fold_ins f_fold_Put f_fold_Take:Nat):IFn:=⟨[.cell 6 2 true,.tmp 7],
  .seq (.reg false [⟨(some 3),.op (.box (.t 0)),none⟩,
    ⟨(some 6),.op (.alloc [.i .u8 0,.nils]),none⟩,
    ⟨(some 7),.op (.mov (.c (.nils))),none⟩])
  (.seq (.reg false [⟨(some 21),.op (.loadN 2 (.t 3)),none⟩,
    ⟨(some 22),.callF f_fold_copied [(.t 21)],none⟩,
    ⟨none,.op (.store 2 (.t 3) (.t 22)),none⟩])
  (.seq (.seq (.reg false [⟨(some 23),.op (.loadN 2 (.t 3)),none⟩,
    ⟨(some 24),.callF f_fold_May [(.t 23)],none⟩,
    ⟨(some 25),.op (.un .not (.t 24)),none⟩])
  (.cond (.t 25) (.seq (.reg false [⟨(some 26),.op (.loadN 2 (.t 3)),none⟩,
    ⟨none,.op (.store 2 (.t 6) (.t 26)),none⟩,
    ⟨(some 7),.op (.mov (.c (.nils))),none⟩])
  (.ret)) (.skip)))
  (.seq (.seq (.reg false [⟨(some 27),.op (.mov (.t 1)),none⟩,
    ⟨(some 28),.callF f_values_Words [(.t 27)],none⟩,
    ⟨(some 29),.op (.len false (.t 28)),none⟩,
    ⟨(some 30),.op (.bin .eql (.t 29) (.c (.i .i64 0))),none⟩])
  (.cond (.t 30) (.seq (.reg false [⟨(some 31),.op (.build [.i .u8 0,.nils] []),none⟩,
    ⟨none,.op (.store 2 (.t 6) (.t 31)),none⟩,
    ⟨(some 7),.op (.mov (.c (.nils))),none⟩])
  (.ret)) (.skip)))
  (.seq (.reg false [⟨(some 33),.op (.mov (.t 1)),none⟩,
    ⟨(some 34),.callF f_values_Turned [(.t 33)],none⟩,
    ⟨(some 32),.op (.mov (.t 34)),none⟩,
    ⟨(some 35),.op (.ext (.t 32) 0),none⟩,
    ⟨(some 36),.op (.ext (.t 32) 1),none⟩,
    ⟨(some 8),.op (.mov (.t 35)),none⟩,
    ⟨(some 9),.op (.mov (.t 36)),none⟩])
  (.seq (.reg false [⟨(some 10),.op (.mov (.c (.i .i64 0))),none⟩])
  (.seq (.seq (.reg false [⟨(some 37),.op (.mov (.t 9)),none⟩])
  (.cond (.t 37) (.reg false [⟨(some 10),.op (.mov (.c (.i .i64 1))),none⟩]) (.skip)))
  (.seq (.seq (.reg false [⟨(some 38),.op (.fAddr 0 (.t 3)),none⟩,
    ⟨(some 39),.op (.load1 (.t 38)),none⟩,
    ⟨(some 40),.op (.bin .eql (.t 39) (.c (.i .u8 0))),none⟩])
  (.cond (.t 40) (.reg false [⟨(some 41),.op (.mov (.t 10)),none⟩,
    ⟨(some 42),.op (.cvInt .u8 (.t 41)),none⟩,
    ⟨(some 43),.op (.bin .add (.c (.i .u8 1)) (.t 42)),none⟩,
    ⟨(some 44),.op (.fAddr 0 (.t 3)),none⟩,
    ⟨none,.op (.store 1 (.t 44) (.t 43)),none⟩]) (.skip)))
  (.seq (.reg false [⟨(some 11),.op (.alloc [.nils]),none⟩])
  (.cut (ir_fold_Step_c9 f_fold_copied f_fold_May f_values_Words f_values_Turned f_fold_Step_1 f_values_Read f_fold_members f_fold_ins f_fold_Put f_fold_Take))))))))))⟩
def cPut (P:Program) (f:Nat):Prop:=∀ (l:GList) (s:List UInt8) (n:Int),l.calls.length ≤ 100000 → Pure P f [.agg (cList l),.s s,.i .u32 n] (.agg (cList (putM l s n)))
def cTake (P:Program) (f:Nat):Prop:=∀ (l:GList) (s:List UInt8),l.calls.length ≤ 100000 → Pure P f [.agg (cList l),.s s] (.agg (cList (takeM l s)))
theorem step_in {g1 g2 g3 g4 g5 g6 g7 g8 g9 g10:Nat} (h1:cPut P g9) (h2:cTake P g10) (fl t ins:Bool) (way:Int) (W N:List (List UInt8)) (j:Nat) (l:GList) (wd:Word) (w:List UInt8) (ns:List GNote) (hW:W.length ≤ 1000) (hN:N.length ≤ 1000)
    (hl:mayM l = true) (hm:l.mode ≠ 0) (hk:∀ n ∈ N,knownM n = true) (ha:actM wd.act = true) (Q:X → Tr AV → Hp → Prop)
    (hQ:∀ t' h',Wk 0 t' h' (mkT [(2,.b fl),(3,.ptr 0 0),(6,.ptr 1 0),(9,.b t),(10,.i .i64 way),(11,.ptr 2 0),(46,.fz W.length (rS W)),(47,.i .i64 W.length),(48,.i .i64 j)])
      (mkH 0 [.cells 0 true false (cList (N.foldl (stepN ins wd.act) l)),.cells 0 true false [.i .u8 0,.nils],.cells 0 true false [.own 3 ns.length],.cells 4 true true (rN ns)]) → Q .normal t' h') :
    S P 0 (ir_fold_Step_c95 g1 g2 g3 g4 g5 g6 g7 g8 g9 g10) Q
      (mkT [(2,.b fl),(3,.ptr 0 0),(6,.ptr 1 0),(9,.b t),(10,.i .i64 way),(11,.ptr 2 0),(46,.fz W.length (rS W)),(47,.i .i64 W.length),(48,.i .i64 j),(15,.ptr 4 0),(17,.fz N.length (rS N)),(18,.b ins)])
      (mkH 0 [.cells 0 true false (cList l),.cells 0 true false [.i .u8 0,.nils],.cells 0 true false [.own 3 ns.length],.cells 4 true true (rN ns),.cells 0 true false (cWord wd)]):=by
  refine V_sound ?_
  simp only [ir_fold_Step_c95,cList,argsT,H0,mkT,mkH,trL,List.length_cons,List.length_nil,Nat.reduceAdd,Nat.zero_add]
  simp only [↓vS,cvF_pc,vP,shb,shv,shvs,she_nil,she_cons,vC,vQ,Nat.reduceEqDiff,↓reduceIte,eq_self,Nat.reduceAdd,Nat.reduceMul,Nat.reduceSub,Nat.reduceLeDiff,Nat.reduceLT,defd,cellsOf,wr,packR,Int.reduceLE,Int.reduceLT,Int.reduceEq,Int.cast_ofNat_Int,Int.reduceToNat]
  refine SL.loop (α:=Nat) (fun k=>[(2,.b fl),(3,.ptr 0 0),(6,.ptr 1 0),(9,.b t),(10,.i .i64 way),(11,.ptr 2 0),(46,.fz W.length (rS W)),(47,.i .i64 W.length),(48,.i .i64 j),(15,.ptr 4 0),(18,.b ins),(95,.fz N.length (rS N)),(96,.i .i64 N.length),(97,.i .i64 k)])
    (fun k=>[.cells 0 true false (cList ((N.take k).foldl (stepN ins wd.act) l)),.cells 0 true false [.i .u8 0,.nils],.cells 0 true false [.own 3 ns.length],.cells 4 true true (rN ns),.cells 0 true false (cWord wd)])
    (fun k=>k ≤ N.length) (fun k=>N.length - k) 0 [0,1,2,3,4] ?_ ?_ ?_ rfl ?_ ?_
  · simp [vW,bw_map,mapAt_map,mapClo_it,mapClo_nil,mapClo_cons,vP,vZ,Tr.get_set]
  · simp [vW,bw_map,mapAt_map,mapClo_it,mapClo_nil,mapClo_cons,vP,vZ,Tr.get_set,cList,nvs_self,rN_clos,rC_clos,cWord]
  · simp
  · exact Nat.zero_le _
  rintro k hk1 G ih
  have hmay:=foldN_may (ins:=ins) ha hl hm (fun n hn=>hk n (List.mem_of_mem_take (i:=k) hn))
  have hlen:=may_len hmay
  generalize hr:(N.take k).foldl (stepN ins wd.act) l = r at hmay hlen ih ⊢
  simp only [argsT,H0,mkT,mkH,trL,List.length_cons,List.length_nil,Nat.reduceAdd,Nat.zero_add]
  by_cases hlt:k < N.length
  · have hx:(rS N)[k]? = some (.s N[k]):=by rw [rS_get,List.getElem?_eq_getElem hlt]; rfl
    have hw:IntKind.wrap .i64 ((k:Int) + 1) = ((k + 1:Nat):Int):=by rw [wrap64 (by omega) (by omega)]; omega
    have hnext:(N.take (k + 1)).foldl (stepN ins wd.act) l = stepN ins wd.act r N[k]:=by
      rw [List.take_add_one,List.getElem?_eq_getElem hlt,List.foldl_append,hr]; rfl
    have ih2:=ih (k + 1)
    rw [hnext] at ih2
    simp only [cList,cWord]
    cases ins with
    | true =>
      simp only [↓vS,cvF_pc,vP,shb,shv,shvs,she_nil,she_cons,vC,vQ,Nat.reduceEqDiff,↓reduceIte,eq_self,Nat.reduceAdd,Nat.reduceMul,Nat.reduceSub,Nat.reduceLeDiff,Nat.reduceLT,defd,cellsOf,wr,packR,Int.reduceLE,Int.reduceLT,Int.reduceEq,Int.cast_ofNat_Int,Int.reduceToNat,hlt,hx,Nat.mul_one]
      refine (h1 r N[k] wd.act (by omega)).sc ?_
      simp only [↓vS,cvF_pc,vP,shb,shv,shvs,she_nil,she_cons,vC,vQ,Nat.reduceEqDiff,↓reduceIte,eq_self,Nat.reduceAdd,Nat.reduceMul,Nat.reduceSub,Nat.reduceLeDiff,Nat.reduceLT,defd,cellsOf,wr,packR,Int.reduceLE,Int.reduceLT,Int.reduceEq,Int.cast_ofNat_Int,Int.reduceToNat,hw,cList]
      refine ih2 (by omega) (by omega) _ _ (Wk.mk _ _ [0,1,2,3,4] ?_ ?_ ?_ rfl)
      · simp [vW,bw_map,mapAt_map,mapClo_it,mapClo_nil,mapClo_cons,vP,vZ,Tr.get_set]
      · simp [vW,bw_map,mapAt_map,mapClo_it,mapClo_nil,mapClo_cons,vP,vZ,Tr.get_set,cList,nvs_self,rN_clos,rC_clos,cWord,stepN]
      · simp
    | false =>
      simp only [↓vS,cvF_pc,vP,shb,shv,shvs,she_nil,she_cons,vC,vQ,Nat.reduceEqDiff,↓reduceIte,eq_self,Nat.reduceAdd,Nat.reduceMul,Nat.reduceSub,Nat.reduceLeDiff,Nat.reduceLT,defd,cellsOf,wr,packR,Int.reduceLE,Int.reduceLT,Int.reduceEq,Int.cast_ofNat_Int,Int.reduceToNat,hlt,hx,Nat.mul_one]
      refine (h2 r N[k] (by omega)).sc ?_
      simp only [↓vS,cvF_pc,vP,shb,shv,shvs,she_nil,she_cons,vC,vQ,Nat.reduceEqDiff,↓reduceIte,eq_self,Nat.reduceAdd,Nat.reduceMul,Nat.reduceSub,Nat.reduceLeDiff,Nat.reduceLT,defd,cellsOf,wr,packR,Int.reduceLE,Int.reduceLT,Int.reduceEq,Int.cast_ofNat_Int,Int.reduceToNat,hw,cList]
      refine ih2 (by omega) (by omega) _ _ (Wk.mk _ _ [0,1,2,3,4] ?_ ?_ ?_ rfl)
      · simp [vW,bw_map,mapAt_map,mapClo_it,mapClo_nil,mapClo_cons,vP,vZ,Tr.get_set]
      · simp [vW,bw_map,mapAt_map,mapClo_it,mapClo_nil,mapClo_cons,vP,vZ,Tr.get_set,cList,nvs_self,rN_clos,rC_clos,cWord,stepN]
      · simp
  · have hkl:N.take k = N:=List.take_of_length_le (by omega)
    rw [hkl] at hr
    rw [hr] at hQ
    simp only [↓vS,cvF_pc,vP,shb,shv,shvs,she_nil,she_cons,vC,vQ,Nat.reduceEqDiff,↓reduceIte,eq_self,Nat.reduceAdd,Nat.reduceMul,Nat.reduceSub,Nat.reduceLeDiff,Nat.reduceLT,defd,cellsOf,wr,packR,Int.reduceLE,Int.reduceLT,Int.reduceEq,Int.cast_ofNat_Int,Int.reduceToNat,hlt]
    refine hQ _ _ (Wk.mk _ _ [0,1,2,3] ?_ ?_ ?_ rfl)
    · simp [vW,bw_map,mapAt_map,mapClo_it,mapClo_nil,mapClo_cons,vP,vZ,Tr.get_set]
    · simp [vW,bw_map,mapAt_map,mapClo_it,mapClo_nil,mapClo_cons,vP,vZ,Tr.get_set,cList,nvs_self,rN_clos,rC_clos]
    · simp
def cStep1 (P:Program) (f:Nat):Prop:=∀ (ns:List GNote) (e:Int) (w:List UInt8),(ns.length + 1) * 48 ≤ roomB →
    Upd P f [.i .i64 e,.ptr 0 0,.ptr 1 0] [.cells 0 true false [.own 2 ns.length],.cells 0 true false [.s w],.cells 4 true true (rN ns)] (.tup []) [.cells 0 true false [.own 3 (ns ++ [noteW e w]).length],.cells 0 true false [.s w],.dead,.cells 4 true true (rN (ns ++ [noteW e w]))]
def cRead (P:Program) (f:Nat):Prop:=∀ a:List UInt8,a.length ≤ 1000000 → Pure P f [.s a] (.tup [.agg (cWord (readM a).1),.i .i64 (readM a).2])
def cIns (P:Program) (f:Nat):Prop:=Pure P f [] (.agg [.b true,.b false,.b false,.b true])
def wayI (t:Bool):Int:=if t = true then 1 else 0
theorem step_up {g1 g2 g3 g4 g5 g6 g7 g8 g9 g10:Nat} (fl t:Bool) (way:Int) (W:List (List UInt8)) (j:Nat) (hj:j < 100000) (l:GList) (ns:List GNote) (Q:X → Tr AV → Hp → Prop)
    (hQ:∀ t' h',Wk 0 t' h' (mkT [(2,.b fl),(3,.ptr 0 0),(6,.ptr 1 0),(9,.b t),(10,.i .i64 way),(11,.ptr 2 0),(46,.fz W.length (rS W)),(47,.i .i64 W.length),(48,.i .i64 (j + 1:Nat))])
      (mkH 0 [.cells 0 true false (cList l),.cells 0 true false [.i .u8 0,.nils],.cells 0 true false [.own 3 ns.length],.cells 4 true true (rN ns)]) → Q .normal t' h') :
    S P 0 (ir_fold_Step_c111 g1 g2 g3 g4 g5 g6 g7 g8 g9 g10) Q
      (mkT [(2,.b fl),(3,.ptr 0 0),(6,.ptr 1 0),(9,.b t),(10,.i .i64 way),(11,.ptr 2 0),(46,.fz W.length (rS W)),(47,.i .i64 W.length),(48,.i .i64 j)])
      (mkH 0 [.cells 0 true false (cList l),.cells 0 true false [.i .u8 0,.nils],.cells 0 true false [.own 3 ns.length],.cells 4 true true (rN ns)]):=by
  have hw:IntKind.wrap .i64 ((j:Int) + 1) = ((j + 1:Nat):Int):=by rw [wrap64 (by omega) (by omega)]; omega
  refine V_sound ?_
  simp only [ir_fold_Step_c111,cList,argsT,H0,mkT,mkH,trL,List.length_cons,List.length_nil,Nat.reduceAdd,Nat.zero_add]
  simp only [↓vS,cvF_pc,vP,shb,shv,shvs,she_nil,she_cons,vC,vQ,Nat.reduceEqDiff,↓reduceIte,eq_self,Nat.reduceAdd,Nat.reduceMul,Nat.reduceSub,Nat.reduceLeDiff,Nat.reduceLT,defd,cellsOf,wr,packR,Int.reduceLE,Int.reduceLT,Int.reduceEq,Int.cast_ofNat_Int,Int.reduceToNat,hw]
  refine hQ _ _ (Wk.mk _ _ [0,1,2,3] ?_ ?_ ?_ rfl)
  · simp [vW,bw_map,mapAt_map,mapClo_it,mapClo_nil,mapClo_cons,vP,vZ,Tr.get_set]
  · simp [vW,bw_map,mapAt_map,mapClo_it,mapClo_nil,mapClo_cons,vP,vZ,Tr.get_set,cList,nvs_self,rN_clos,rC_clos]
  · simp
set_option maxHeartbeats 2000000 in
theorem step_c9 {g1 g2 g3 g4 g5 g6 g7 g8 g9 g10:Nat} {E:List UInt8 → List (List UInt8) × Int} (hE:ExpOk E) (h3:cWords P g3) (h5:cStep1 P g5) (h6:cRead P g6) (h7:cExp (memM E) P g7) (h8:cIns P g8) (h9:cPut P g9) (h10:cTake P g10)
    (fl t:Bool) (v:List UInt8) (hv:v.length ≤ 1000) (l:GList) (hl:mayM l = true) (hm:l.mode = 1 ∨ l.mode = 2) :
    S P 0 (ir_fold_Step_c9 g1 g2 g3 g4 g5 g6 g7 g8 g9 g10) (endX [.cell 6 2 true,.tmp 7] (OwnZ (.tup [.agg (cList ((words v).foldl (stepW E fl t) (l,[])).1),.own 0 ((words v).foldl (stepW E fl t) (l,[])).2.length]) [.cells 4 true true (rN ((words v).foldl (stepW E fl t) (l,[])).2)]))
      (mkT [(2,.b fl),(3,.ptr 0 0),(6,.ptr 1 0),(8,.s v),(9,.b t),(10,.i .i64 (wayI t)),(11,.ptr 2 0)])
      (mkH 0 [.cells 0 true false (cList l),.cells 0 true false [.i .u8 0,.nils],.cells 0 true false [.own 3 0],.cells 4 true true []]):=by
  have hwl:=words_len v
  refine V_sound ?_
  simp only [ir_fold_Step_c9,cList,argsT,H0,mkT,mkH,trL,List.length_cons,List.length_nil,Nat.reduceAdd,Nat.zero_add]
  simp only [↓vS,cvF_pc,vP,shb,shv,shvs,she_nil,she_cons,vC,vQ,Nat.reduceEqDiff,↓reduceIte,eq_self,Nat.reduceAdd,Nat.reduceMul,Nat.reduceSub,Nat.reduceLeDiff,Nat.reduceLT,defd,cellsOf,wr,packR,Int.reduceLE,Int.reduceLT,Int.reduceEq,Int.cast_ofNat_Int,Int.reduceToNat]
  refine (h3 v (by omega)).sc ?_
  simp only [↓vS,cvF_pc,vP,shb,shv,shvs,she_nil,she_cons,vC,vQ,Nat.reduceEqDiff,↓reduceIte,eq_self,Nat.reduceAdd,Nat.reduceMul,Nat.reduceSub,Nat.reduceLeDiff,Nat.reduceLT,defd,cellsOf,wr,packR,Int.reduceLE,Int.reduceLT,Int.reduceEq,Int.cast_ofNat_Int,Int.reduceToNat]
  refine SL.loop (α:=Nat) (fun j=>[(2,.b fl),(3,.ptr 0 0),(6,.ptr 1 0),(9,.b t),(10,.i .i64 (wayI t)),(11,.ptr 2 0),(46,.fz (words v).length (rS (words v))),(47,.i .i64 (words v).length),(48,.i .i64 j)])
    (fun j=>[.cells 0 true false (cList (((words v).take j).foldl (stepW E fl t) (l,[])).1),.cells 0 true false [.i .u8 0,.nils],.cells 0 true false [.own 3 (((words v).take j).foldl (stepW E fl t) (l,[])).2.length],.cells 4 true true (rN (((words v).take j).foldl (stepW E fl t) (l,[])).2)])
    (fun j=>j ≤ (words v).length) (fun j=>(words v).length - j) 0 [0,1,2,3] ?_ ?_ ?_ rfl ?_ ?_
  · simp [vW,bw_map,mapAt_map,mapClo_it,mapClo_nil,mapClo_cons,vP,vZ,Tr.get_set,rS]
  · simp [vW,bw_map,mapAt_map,mapClo_it,mapClo_nil,mapClo_cons,vP,vZ,Tr.get_set,cList,nvs_self,rN_clos,rC_clos,rN_nil]
  · simp
  · exact Nat.zero_le _
  rintro j hj G ih
  obtain ⟨k1,k2,k3⟩:=stepWs_may hE fl t ((words v).take j) (l,[]) hl (by dsimp only; omega)
  have k4:=may_len k1
  dsimp only at k2
  simp only [List.length_take,List.length_nil,Nat.zero_add] at k3
  generalize hr:((words v).take j).foldl (stepW E fl t) (l,[]) = r at k1 k2 k3 k4 ih ⊢
  simp only [argsT,H0,mkT,mkH,trL,List.length_cons,List.length_nil,Nat.reduceAdd,Nat.zero_add]
  by_cases hlt:j < (words v).length
  · have hx : (rS (words v))[j]? = some (.s (words v)[j]):=by rw [rS_get,List.getElem?_eq_getElem hlt]; rfl
    have hwj:IntKind.wrap .i64 ((j:Int) + 1) = ((j + 1:Nat):Int):=by rw [wrap64 (by omega) (by omega)]; omega
    have hnext:((words v).take (j + 1)).foldl (stepW E fl t) (l,[]) = stepW E fl t r (words v)[j]:=by
      rw [List.take_add_one,List.getElem?_eq_getElem hlt,List.foldl_append,hr]; rfl
    have ih2:=ih (j + 1)
    rw [hnext] at ih2
    have hwd:=words_word (List.getElem_mem hlt)
    generalize (words v)[j] = w at hx hnext hwd ih2
    simp only [cList]
    simp only [↓vS,cvF_pc,vP,shb,shv,shvs,she_nil,she_cons,vC,vQ,Nat.reduceEqDiff,↓reduceIte,eq_self,Nat.reduceAdd,Nat.reduceMul,Nat.reduceSub,Nat.reduceLeDiff,Nat.reduceLT,defd,cellsOf,wr,packR,Int.reduceLE,Int.reduceLT,Int.reduceEq,Int.cast_ofNat_Int,Int.reduceToNat,hlt,hx,Nat.mul_one]
    refine (h6 w (by omega)).sc ?_
    simp only [↓vS,cvF_pc,vP,shb,shv,shvs,she_nil,she_cons,vC,vQ,Nat.reduceEqDiff,↓reduceIte,eq_self,Nat.reduceAdd,Nat.reduceMul,Nat.reduceSub,Nat.reduceLeDiff,Nat.reduceLT,defd,cellsOf,wr,packR,Int.reduceLE,Int.reduceLT,Int.reduceEq,Int.cast_ofNat_Int,Int.reduceToNat,cWord]
    by_cases e1:(readM w).2 = 0
    · simp only [↓vS,cvF_pc,vP,shb,shv,shvs,she_nil,she_cons,vC,vQ,Nat.reduceEqDiff,↓reduceIte,eq_self,Nat.reduceAdd,Nat.reduceMul,Nat.reduceSub,Nat.reduceLeDiff,Nat.reduceLT,defd,cellsOf,wr,packR,Int.reduceLE,Int.reduceLT,Int.reduceEq,Int.cast_ofNat_Int,Int.reduceToNat,e1]
      refine (h7 (readM w).1.name).sc ?_
      by_cases e2:(memM E (readM w).1.name).2 = 0
      · have hk := memM_ok hE (readM w).1.name
        simp only [↓vS,cvF_pc,vP,shb,shv,shvs,she_nil,she_cons,vC,vQ,Nat.reduceEqDiff,↓reduceIte,eq_self,Nat.reduceAdd,Nat.reduceMul,Nat.reduceSub,Nat.reduceLeDiff,Nat.reduceLT,defd,cellsOf,wr,packR,Int.reduceLE,Int.reduceLT,Int.reduceEq,Int.cast_ofNat_Int,Int.reduceToNat,e2]
        refine VD_pc ?_
        simp only [↓vS,cvF_pc,vP,shb,shv,shvs,she_nil,she_cons,vC,vQ,Nat.reduceEqDiff,↓reduceIte,eq_self,Nat.reduceAdd,Nat.reduceMul,Nat.reduceSub,Nat.reduceLeDiff,Nat.reduceLT,defd,cellsOf,wr,packR,Int.reduceLE,Int.reduceLT,Int.reduceEq,Int.cast_ofNat_Int,Int.reduceToNat]
        refine h8.pc ?_
        have hu1:IntKind.wrap .u8 (1 - 1) = 0:=by decide
        have hu2:IntKind.wrap .u8 (2 - 1) = 1:=by decide
        have hmode:r.1.mode = 1 ∨ r.1.mode = 2:=by rw [k2]; exact hm
        cases t with
        | true =>
          have hway:wayI true = 1:=rfl
          rcases hmode with hm1 | hm1
          · have hin:decide (r.1.mode - 1 = if true = true then 1 else 0) = false:=by rw [hm1]; rfl
            simp only [↓vS,cvF_pc,vP,shb,shv,shvs,she_nil,she_cons,vC,vQ,Nat.reduceEqDiff,↓reduceIte,eq_self,Nat.reduceAdd,Nat.reduceMul,Nat.reduceSub,Nat.reduceLeDiff,Nat.reduceLT,defd,cellsOf,wr,packR,Int.reduceLE,Int.reduceLT,Int.reduceEq,Int.cast_ofNat_Int,Int.reduceToNat,hm1,hway,hu1,hu2,List.drop_succ_cons,List.drop_zero,List.take_succ_cons,List.take_zero,List.getElem?_cons_zero,List.getElem?_cons_succ]
            cases hh:(readM w).1.has with
            | false =>
              have hs:stepW E fl true r w = ((memM E (readM w).1.name).1.foldl (stepN false (readM w).1.act) r.1,r.2):=by
                unfold stepW; rw [if_neg (by simp [e1]),if_neg (by simp [e2]),if_pos hh,hin]
              rw [hs] at ih2
              simp only [↓vS,cvF_pc,vP,shb,shv,shvs,she_nil,she_cons,vC,vQ,Nat.reduceEqDiff,↓reduceIte,eq_self,Nat.reduceAdd,Nat.reduceMul,Nat.reduceSub,Nat.reduceLeDiff,Nat.reduceLT,defd,cellsOf,wr,packR,Int.reduceLE,Int.reduceLT,Int.reduceEq,Int.cast_ofNat_Int,Int.reduceToNat]
              refine S.weak (Wk.mk _ _ [0,1,2,3,5] ?_ ?_ ?_ rfl) (step_in h9 h10 fl true false (wayI true) (words v) (memM E (readM w).1.name).1 j r.1 (readM w).1 w r.2 (by omega) (by omega) k1 (by omega) hk.1 (readM_act w) _ ?_)
              · simp [vW,bw_map,mapAt_map,mapClo_it,mapClo_nil,mapClo_cons,vP,vZ,Tr.get_set,hh,hm1]
              · simp [vW,bw_map,mapAt_map,mapClo_it,mapClo_nil,mapClo_cons,vP,vZ,Tr.get_set,cList,nvs_self,rN_clos,rC_clos,cWord,hh,hm1]
              · simp
              · intro t' h' hw
                simp only [↓vS,cvF_pc,vP,shb,shv,shvs,she_nil,she_cons,vC,vQ,Nat.reduceEqDiff,↓reduceIte,eq_self,Nat.reduceAdd,Nat.reduceMul,Nat.reduceSub,Nat.reduceLeDiff,Nat.reduceLT,defd,cellsOf,wr,packR,Int.reduceLE,Int.reduceLT,Int.reduceEq,Int.cast_ofNat_Int,Int.reduceToNat]
                exact S.weak hw (step_up fl true (wayI true) (words v) j (by omega) _ _ _ (fun t'' h'' hw'=>ih2 (by omega) (by omega) t'' h'' hw'))
            | true =>
              cases fl with
              | false =>
                have hs:stepW E false true r w = ((memM E (readM w).1.name).1.foldl (stepN false 0) r.1,r.2 ++ [noteW 161 w]):=by
                  unfold stepW; rw [if_neg (by simp [e1]),if_neg (by simp [e2]),if_neg (by simp [hh]),if_pos (by decide),hin]
                rw [hs] at ih2
                simp only [↓vS,cvF_pc,vP,shb,shv,shvs,she_nil,she_cons,vC,vQ,Nat.reduceEqDiff,↓reduceIte,eq_self,Nat.reduceAdd,Nat.reduceMul,Nat.reduceSub,Nat.reduceLeDiff,Nat.reduceLT,defd,cellsOf,wr,packR,Int.reduceLE,Int.reduceLT,Int.reduceEq,Int.cast_ofNat_Int,Int.reduceToNat]
                refine (h5 r.2 161 w (by simp only [roomB]; omega)).sc (vs:=[.i .i64 161,.ptr 0 0,.ptr 1 0]) [2,4,3] (Lent.of (by decide) ?_) ?_
                · simp [lent_cons,lent_nil,pushs_cons,pushs_nil,push_mk,shb,shv,shvs,bnds,bnd,rnvs,rnv,gAt,vW,bw_map,mapAt_map,mapClo_it,mapClo_nil,mapClo_cons,vP,vZ,Tr.get_set,bnds_clo rN_clos,rnvs_clo rN_clos,bnd_clo,clo,rnv_clo]
                simp only [backH,List.cons_append,List.nil_append,List.length_cons,List.length_nil,Nat.zero_add,Nat.reduceAdd,List.take_succ_cons,List.take_zero,List.drop_succ_cons,List.drop_zero,List.map_cons,List.map_nil,rnb,rnvs,rnv,gAt,Nat.reduceLT,↓reduceIte,List.getD_cons_zero,List.getD_cons_succ,Nat.reduceSub,puts_cons,puts_nil,pushs_cons,pushs_nil,hput_mk,push_mk,rnvs_clo rN_clos,rnv_clo,clo]
                simp only [↓vS,cvF_pc,vP,shb,shv,shvs,she_nil,she_cons,vC,vQ,Nat.reduceEqDiff,↓reduceIte,eq_self,Nat.reduceAdd,Nat.reduceMul,Nat.reduceSub,Nat.reduceLeDiff,Nat.reduceLT,defd,cellsOf,wr,packR,Int.reduceLE,Int.reduceLT,Int.reduceEq,Int.cast_ofNat_Int,Int.reduceToNat]
                refine S.weak (Wk.mk _ _ [0,1,2,6,5] ?_ ?_ ?_ rfl) (step_in h9 h10 false true false (wayI true) (words v) (memM E (readM w).1.name).1 j r.1 ⟨(readM w).1.name,0,(readM w).1.has⟩ w (r.2 ++ [noteW 161 w]) (by omega) (by omega) k1 (by omega) hk.1 rfl _ ?_)
                · simp [vW,bw_map,mapAt_map,mapClo_it,mapClo_nil,mapClo_cons,vP,vZ,Tr.get_set,hh,hm1]
                · simp [vW,bw_map,mapAt_map,mapClo_it,mapClo_nil,mapClo_cons,vP,vZ,Tr.get_set,cList,nvs_self,rN_clos,rC_clos,cWord,hh,hm1]
                · simp
                · intro t' h' hw
                  simp only [↓vS,cvF_pc,vP,shb,shv,shvs,she_nil,she_cons,vC,vQ,Nat.reduceEqDiff,↓reduceIte,eq_self,Nat.reduceAdd,Nat.reduceMul,Nat.reduceSub,Nat.reduceLeDiff,Nat.reduceLT,defd,cellsOf,wr,packR,Int.reduceLE,Int.reduceLT,Int.reduceEq,Int.cast_ofNat_Int,Int.reduceToNat]
                  exact S.weak hw (step_up false true (wayI true) (words v) j (by omega) _ _ _ (fun t'' h'' hw'=>ih2 (by omega) (by omega) t'' h'' hw'))
              | true =>
                have hs:stepW E true true r w = ((memM E (readM w).1.name).1.foldl (stepN true (readM w).1.act) r.1,r.2):=by
                  unfold stepW; rw [if_neg (by simp [e1]),if_neg (by simp [e2]),if_neg (by simp [hh]),if_neg (by decide)]
                rw [hs] at ih2
                simp only [↓vS,cvF_pc,vP,shb,shv,shvs,she_nil,she_cons,vC,vQ,Nat.reduceEqDiff,↓reduceIte,eq_self,Nat.reduceAdd,Nat.reduceMul,Nat.reduceSub,Nat.reduceLeDiff,Nat.reduceLT,defd,cellsOf,wr,packR,Int.reduceLE,Int.reduceLT,Int.reduceEq,Int.cast_ofNat_Int,Int.reduceToNat]
                refine S.weak (Wk.mk _ _ [0,1,2,3,5] ?_ ?_ ?_ rfl) (step_in h9 h10 true true true (wayI true) (words v) (memM E (readM w).1.name).1 j r.1 (readM w).1 w r.2 (by omega) (by omega) k1 (by omega) hk.1 (readM_act w) _ ?_)
                · simp [vW,bw_map,mapAt_map,mapClo_it,mapClo_nil,mapClo_cons,vP,vZ,Tr.get_set,hh,hm1]
                · simp [vW,bw_map,mapAt_map,mapClo_it,mapClo_nil,mapClo_cons,vP,vZ,Tr.get_set,cList,nvs_self,rN_clos,rC_clos,cWord,hh,hm1]
                · simp
                · intro t' h' hw
                  simp only [↓vS,cvF_pc,vP,shb,shv,shvs,she_nil,she_cons,vC,vQ,Nat.reduceEqDiff,↓reduceIte,eq_self,Nat.reduceAdd,Nat.reduceMul,Nat.reduceSub,Nat.reduceLeDiff,Nat.reduceLT,defd,cellsOf,wr,packR,Int.reduceLE,Int.reduceLT,Int.reduceEq,Int.cast_ofNat_Int,Int.reduceToNat]
                  exact S.weak hw (step_up true true (wayI true) (words v) j (by omega) _ _ _ (fun t'' h'' hw'=>ih2 (by omega) (by omega) t'' h'' hw'))
          · have hin:decide (r.1.mode - 1 = if true = true then 1 else 0) = true:=by rw [hm1]; rfl
            simp only [↓vS,cvF_pc,vP,shb,shv,shvs,she_nil,she_cons,vC,vQ,Nat.reduceEqDiff,↓reduceIte,eq_self,Nat.reduceAdd,Nat.reduceMul,Nat.reduceSub,Nat.reduceLeDiff,Nat.reduceLT,defd,cellsOf,wr,packR,Int.reduceLE,Int.reduceLT,Int.reduceEq,Int.cast_ofNat_Int,Int.reduceToNat,hm1,hway,hu1,hu2,List.drop_succ_cons,List.drop_zero,List.take_succ_cons,List.take_zero,List.getElem?_cons_zero,List.getElem?_cons_succ]
            cases hh:(readM w).1.has with
            | false =>
              have hs:stepW E fl true r w = ((memM E (readM w).1.name).1.foldl (stepN true (readM w).1.act) r.1,r.2):=by
                unfold stepW; rw [if_neg (by simp [e1]),if_neg (by simp [e2]),if_pos hh,hin]
              rw [hs] at ih2
              simp only [↓vS,cvF_pc,vP,shb,shv,shvs,she_nil,she_cons,vC,vQ,Nat.reduceEqDiff,↓reduceIte,eq_self,Nat.reduceAdd,Nat.reduceMul,Nat.reduceSub,Nat.reduceLeDiff,Nat.reduceLT,defd,cellsOf,wr,packR,Int.reduceLE,Int.reduceLT,Int.reduceEq,Int.cast_ofNat_Int,Int.reduceToNat]
              refine S.weak (Wk.mk _ _ [0,1,2,3,5] ?_ ?_ ?_ rfl) (step_in h9 h10 fl true true (wayI true) (words v) (memM E (readM w).1.name).1 j r.1 (readM w).1 w r.2 (by omega) (by omega) k1 (by omega) hk.1 (readM_act w) _ ?_)
              · simp [vW,bw_map,mapAt_map,mapClo_it,mapClo_nil,mapClo_cons,vP,vZ,Tr.get_set,hh,hm1]
              · simp [vW,bw_map,mapAt_map,mapClo_it,mapClo_nil,mapClo_cons,vP,vZ,Tr.get_set,cList,nvs_self,rN_clos,rC_clos,cWord,hh,hm1]
              · simp
              · intro t' h' hw
                simp only [↓vS,cvF_pc,vP,shb,shv,shvs,she_nil,she_cons,vC,vQ,Nat.reduceEqDiff,↓reduceIte,eq_self,Nat.reduceAdd,Nat.reduceMul,Nat.reduceSub,Nat.reduceLeDiff,Nat.reduceLT,defd,cellsOf,wr,packR,Int.reduceLE,Int.reduceLT,Int.reduceEq,Int.cast_ofNat_Int,Int.reduceToNat]
                exact S.weak hw (step_up fl true (wayI true) (words v) j (by omega) _ _ _ (fun t'' h'' hw'=>ih2 (by omega) (by omega) t'' h'' hw'))
            | true =>
              cases fl with
              | false =>
                have hs:stepW E false true r w = ((memM E (readM w).1.name).1.foldl (stepN true 0) r.1,r.2 ++ [noteW 161 w]):=by
                  unfold stepW; rw [if_neg (by simp [e1]),if_neg (by simp [e2]),if_neg (by simp [hh]),if_pos (by decide),hin]
                rw [hs] at ih2
                simp only [↓vS,cvF_pc,vP,shb,shv,shvs,she_nil,she_cons,vC,vQ,Nat.reduceEqDiff,↓reduceIte,eq_self,Nat.reduceAdd,Nat.reduceMul,Nat.reduceSub,Nat.reduceLeDiff,Nat.reduceLT,defd,cellsOf,wr,packR,Int.reduceLE,Int.reduceLT,Int.reduceEq,Int.cast_ofNat_Int,Int.reduceToNat]
                refine (h5 r.2 161 w (by simp only [roomB]; omega)).sc (vs:=[.i .i64 161,.ptr 0 0,.ptr 1 0]) [2,4,3] (Lent.of (by decide) ?_) ?_
                · simp [lent_cons,lent_nil,pushs_cons,pushs_nil,push_mk,shb,shv,shvs,bnds,bnd,rnvs,rnv,gAt,vW,bw_map,mapAt_map,mapClo_it,mapClo_nil,mapClo_cons,vP,vZ,Tr.get_set,bnds_clo rN_clos,rnvs_clo rN_clos,bnd_clo,clo,rnv_clo]
                simp only [backH,List.cons_append,List.nil_append,List.length_cons,List.length_nil,Nat.zero_add,Nat.reduceAdd,List.take_succ_cons,List.take_zero,List.drop_succ_cons,List.drop_zero,List.map_cons,List.map_nil,rnb,rnvs,rnv,gAt,Nat.reduceLT,↓reduceIte,List.getD_cons_zero,List.getD_cons_succ,Nat.reduceSub,puts_cons,puts_nil,pushs_cons,pushs_nil,hput_mk,push_mk,rnvs_clo rN_clos,rnv_clo,clo]
                simp only [↓vS,cvF_pc,vP,shb,shv,shvs,she_nil,she_cons,vC,vQ,Nat.reduceEqDiff,↓reduceIte,eq_self,Nat.reduceAdd,Nat.reduceMul,Nat.reduceSub,Nat.reduceLeDiff,Nat.reduceLT,defd,cellsOf,wr,packR,Int.reduceLE,Int.reduceLT,Int.reduceEq,Int.cast_ofNat_Int,Int.reduceToNat]
                refine S.weak (Wk.mk _ _ [0,1,2,6,5] ?_ ?_ ?_ rfl) (step_in h9 h10 false true true (wayI true) (words v) (memM E (readM w).1.name).1 j r.1 ⟨(readM w).1.name,0,(readM w).1.has⟩ w (r.2 ++ [noteW 161 w]) (by omega) (by omega) k1 (by omega) hk.1 rfl _ ?_)
                · simp [vW,bw_map,mapAt_map,mapClo_it,mapClo_nil,mapClo_cons,vP,vZ,Tr.get_set,hh,hm1]
                · simp [vW,bw_map,mapAt_map,mapClo_it,mapClo_nil,mapClo_cons,vP,vZ,Tr.get_set,cList,nvs_self,rN_clos,rC_clos,cWord,hh,hm1]
                · simp
                · intro t' h' hw
                  simp only [↓vS,cvF_pc,vP,shb,shv,shvs,she_nil,she_cons,vC,vQ,Nat.reduceEqDiff,↓reduceIte,eq_self,Nat.reduceAdd,Nat.reduceMul,Nat.reduceSub,Nat.reduceLeDiff,Nat.reduceLT,defd,cellsOf,wr,packR,Int.reduceLE,Int.reduceLT,Int.reduceEq,Int.cast_ofNat_Int,Int.reduceToNat]
                  exact S.weak hw (step_up false true (wayI true) (words v) j (by omega) _ _ _ (fun t'' h'' hw'=>ih2 (by omega) (by omega) t'' h'' hw'))
              | true =>
                have hs:stepW E true true r w = ((memM E (readM w).1.name).1.foldl (stepN true (readM w).1.act) r.1,r.2):=by
                  unfold stepW; rw [if_neg (by simp [e1]),if_neg (by simp [e2]),if_neg (by simp [hh]),if_neg (by decide)]
                rw [hs] at ih2
                simp only [↓vS,cvF_pc,vP,shb,shv,shvs,she_nil,she_cons,vC,vQ,Nat.reduceEqDiff,↓reduceIte,eq_self,Nat.reduceAdd,Nat.reduceMul,Nat.reduceSub,Nat.reduceLeDiff,Nat.reduceLT,defd,cellsOf,wr,packR,Int.reduceLE,Int.reduceLT,Int.reduceEq,Int.cast_ofNat_Int,Int.reduceToNat]
                refine S.weak (Wk.mk _ _ [0,1,2,3,5] ?_ ?_ ?_ rfl) (step_in h9 h10 true true true (wayI true) (words v) (memM E (readM w).1.name).1 j r.1 (readM w).1 w r.2 (by omega) (by omega) k1 (by omega) hk.1 (readM_act w) _ ?_)
                · simp [vW,bw_map,mapAt_map,mapClo_it,mapClo_nil,mapClo_cons,vP,vZ,Tr.get_set,hh,hm1]
                · simp [vW,bw_map,mapAt_map,mapClo_it,mapClo_nil,mapClo_cons,vP,vZ,Tr.get_set,cList,nvs_self,rN_clos,rC_clos,cWord,hh,hm1]
                · simp
                · intro t' h' hw
                  simp only [↓vS,cvF_pc,vP,shb,shv,shvs,she_nil,she_cons,vC,vQ,Nat.reduceEqDiff,↓reduceIte,eq_self,Nat.reduceAdd,Nat.reduceMul,Nat.reduceSub,Nat.reduceLeDiff,Nat.reduceLT,defd,cellsOf,wr,packR,Int.reduceLE,Int.reduceLT,Int.reduceEq,Int.cast_ofNat_Int,Int.reduceToNat]
                  exact S.weak hw (step_up true true (wayI true) (words v) j (by omega) _ _ _ (fun t'' h'' hw'=>ih2 (by omega) (by omega) t'' h'' hw'))
        | false =>
          have hway:wayI false = 0:=rfl
          rcases hmode with hm1 | hm1
          · have hin:decide (r.1.mode - 1 = if false = true then 1 else 0) = true:=by rw [hm1]; rfl
            simp only [↓vS,cvF_pc,vP,shb,shv,shvs,she_nil,she_cons,vC,vQ,Nat.reduceEqDiff,↓reduceIte,eq_self,Nat.reduceAdd,Nat.reduceMul,Nat.reduceSub,Nat.reduceLeDiff,Nat.reduceLT,defd,cellsOf,wr,packR,Int.reduceLE,Int.reduceLT,Int.reduceEq,Int.cast_ofNat_Int,Int.reduceToNat,hm1,hway,hu1,hu2,List.drop_succ_cons,List.drop_zero,List.take_succ_cons,List.take_zero,List.getElem?_cons_zero,List.getElem?_cons_succ]
            cases hh:(readM w).1.has with
            | false =>
              have hs:stepW E fl false r w = ((memM E (readM w).1.name).1.foldl (stepN true (readM w).1.act) r.1,r.2):=by
                unfold stepW; rw [if_neg (by simp [e1]),if_neg (by simp [e2]),if_pos hh,hin]
              rw [hs] at ih2
              simp only [↓vS,cvF_pc,vP,shb,shv,shvs,she_nil,she_cons,vC,vQ,Nat.reduceEqDiff,↓reduceIte,eq_self,Nat.reduceAdd,Nat.reduceMul,Nat.reduceSub,Nat.reduceLeDiff,Nat.reduceLT,defd,cellsOf,wr,packR,Int.reduceLE,Int.reduceLT,Int.reduceEq,Int.cast_ofNat_Int,Int.reduceToNat]
              refine S.weak (Wk.mk _ _ [0,1,2,3,5] ?_ ?_ ?_ rfl) (step_in h9 h10 fl false true (wayI false) (words v) (memM E (readM w).1.name).1 j r.1 (readM w).1 w r.2 (by omega) (by omega) k1 (by omega) hk.1 (readM_act w) _ ?_)
              · simp [vW,bw_map,mapAt_map,mapClo_it,mapClo_nil,mapClo_cons,vP,vZ,Tr.get_set,hh,hm1]
              · simp [vW,bw_map,mapAt_map,mapClo_it,mapClo_nil,mapClo_cons,vP,vZ,Tr.get_set,cList,nvs_self,rN_clos,rC_clos,cWord,hh,hm1]
              · simp
              · intro t' h' hw
                simp only [↓vS,cvF_pc,vP,shb,shv,shvs,she_nil,she_cons,vC,vQ,Nat.reduceEqDiff,↓reduceIte,eq_self,Nat.reduceAdd,Nat.reduceMul,Nat.reduceSub,Nat.reduceLeDiff,Nat.reduceLT,defd,cellsOf,wr,packR,Int.reduceLE,Int.reduceLT,Int.reduceEq,Int.cast_ofNat_Int,Int.reduceToNat]
                exact S.weak hw (step_up fl false (wayI false) (words v) j (by omega) _ _ _ (fun t'' h'' hw'=>ih2 (by omega) (by omega) t'' h'' hw'))
            | true =>
              cases fl with
              | false =>
                have hs:stepW E false false r w = ((memM E (readM w).1.name).1.foldl (stepN true 0) r.1,r.2 ++ [noteW 161 w]):=by
                  unfold stepW; rw [if_neg (by simp [e1]),if_neg (by simp [e2]),if_neg (by simp [hh]),if_pos (by decide),hin]
                rw [hs] at ih2
                simp only [↓vS,cvF_pc,vP,shb,shv,shvs,she_nil,she_cons,vC,vQ,Nat.reduceEqDiff,↓reduceIte,eq_self,Nat.reduceAdd,Nat.reduceMul,Nat.reduceSub,Nat.reduceLeDiff,Nat.reduceLT,defd,cellsOf,wr,packR,Int.reduceLE,Int.reduceLT,Int.reduceEq,Int.cast_ofNat_Int,Int.reduceToNat]
                refine (h5 r.2 161 w (by simp only [roomB]; omega)).sc (vs:=[.i .i64 161,.ptr 0 0,.ptr 1 0]) [2,4,3] (Lent.of (by decide) ?_) ?_
                · simp [lent_cons,lent_nil,pushs_cons,pushs_nil,push_mk,shb,shv,shvs,bnds,bnd,rnvs,rnv,gAt,vW,bw_map,mapAt_map,mapClo_it,mapClo_nil,mapClo_cons,vP,vZ,Tr.get_set,bnds_clo rN_clos,rnvs_clo rN_clos,bnd_clo,clo,rnv_clo]
                simp only [backH,List.cons_append,List.nil_append,List.length_cons,List.length_nil,Nat.zero_add,Nat.reduceAdd,List.take_succ_cons,List.take_zero,List.drop_succ_cons,List.drop_zero,List.map_cons,List.map_nil,rnb,rnvs,rnv,gAt,Nat.reduceLT,↓reduceIte,List.getD_cons_zero,List.getD_cons_succ,Nat.reduceSub,puts_cons,puts_nil,pushs_cons,pushs_nil,hput_mk,push_mk,rnvs_clo rN_clos,rnv_clo,clo]
                simp only [↓vS,cvF_pc,vP,shb,shv,shvs,she_nil,she_cons,vC,vQ,Nat.reduceEqDiff,↓reduceIte,eq_self,Nat.reduceAdd,Nat.reduceMul,Nat.reduceSub,Nat.reduceLeDiff,Nat.reduceLT,defd,cellsOf,wr,packR,Int.reduceLE,Int.reduceLT,Int.reduceEq,Int.cast_ofNat_Int,Int.reduceToNat]
                refine S.weak (Wk.mk _ _ [0,1,2,6,5] ?_ ?_ ?_ rfl) (step_in h9 h10 false false true (wayI false) (words v) (memM E (readM w).1.name).1 j r.1 ⟨(readM w).1.name,0,(readM w).1.has⟩ w (r.2 ++ [noteW 161 w]) (by omega) (by omega) k1 (by omega) hk.1 rfl _ ?_)
                · simp [vW,bw_map,mapAt_map,mapClo_it,mapClo_nil,mapClo_cons,vP,vZ,Tr.get_set,hh,hm1]
                · simp [vW,bw_map,mapAt_map,mapClo_it,mapClo_nil,mapClo_cons,vP,vZ,Tr.get_set,cList,nvs_self,rN_clos,rC_clos,cWord,hh,hm1]
                · simp
                · intro t' h' hw
                  simp only [↓vS,cvF_pc,vP,shb,shv,shvs,she_nil,she_cons,vC,vQ,Nat.reduceEqDiff,↓reduceIte,eq_self,Nat.reduceAdd,Nat.reduceMul,Nat.reduceSub,Nat.reduceLeDiff,Nat.reduceLT,defd,cellsOf,wr,packR,Int.reduceLE,Int.reduceLT,Int.reduceEq,Int.cast_ofNat_Int,Int.reduceToNat]
                  exact S.weak hw (step_up false false (wayI false) (words v) j (by omega) _ _ _ (fun t'' h'' hw'=>ih2 (by omega) (by omega) t'' h'' hw'))
              | true =>
                have hs:stepW E true false r w = ((memM E (readM w).1.name).1.foldl (stepN true 0) r.1,r.2 ++ [noteW 161 w]):=by
                  unfold stepW; rw [if_neg (by simp [e1]),if_neg (by simp [e2]),if_neg (by simp [hh]),if_pos (by decide),hin]
                rw [hs] at ih2
                simp only [↓vS,cvF_pc,vP,shb,shv,shvs,she_nil,she_cons,vC,vQ,Nat.reduceEqDiff,↓reduceIte,eq_self,Nat.reduceAdd,Nat.reduceMul,Nat.reduceSub,Nat.reduceLeDiff,Nat.reduceLT,defd,cellsOf,wr,packR,Int.reduceLE,Int.reduceLT,Int.reduceEq,Int.cast_ofNat_Int,Int.reduceToNat]
                refine (h5 r.2 161 w (by simp only [roomB]; omega)).sc (vs:=[.i .i64 161,.ptr 0 0,.ptr 1 0]) [2,4,3] (Lent.of (by decide) ?_) ?_
                · simp [lent_cons,lent_nil,pushs_cons,pushs_nil,push_mk,shb,shv,shvs,bnds,bnd,rnvs,rnv,gAt,vW,bw_map,mapAt_map,mapClo_it,mapClo_nil,mapClo_cons,vP,vZ,Tr.get_set,bnds_clo rN_clos,rnvs_clo rN_clos,bnd_clo,clo,rnv_clo]
                simp only [backH,List.cons_append,List.nil_append,List.length_cons,List.length_nil,Nat.zero_add,Nat.reduceAdd,List.take_succ_cons,List.take_zero,List.drop_succ_cons,List.drop_zero,List.map_cons,List.map_nil,rnb,rnvs,rnv,gAt,Nat.reduceLT,↓reduceIte,List.getD_cons_zero,List.getD_cons_succ,Nat.reduceSub,puts_cons,puts_nil,pushs_cons,pushs_nil,hput_mk,push_mk,rnvs_clo rN_clos,rnv_clo,clo]
                simp only [↓vS,cvF_pc,vP,shb,shv,shvs,she_nil,she_cons,vC,vQ,Nat.reduceEqDiff,↓reduceIte,eq_self,Nat.reduceAdd,Nat.reduceMul,Nat.reduceSub,Nat.reduceLeDiff,Nat.reduceLT,defd,cellsOf,wr,packR,Int.reduceLE,Int.reduceLT,Int.reduceEq,Int.cast_ofNat_Int,Int.reduceToNat]
                refine S.weak (Wk.mk _ _ [0,1,2,6,5] ?_ ?_ ?_ rfl) (step_in h9 h10 true false true (wayI false) (words v) (memM E (readM w).1.name).1 j r.1 ⟨(readM w).1.name,0,(readM w).1.has⟩ w (r.2 ++ [noteW 161 w]) (by omega) (by omega) k1 (by omega) hk.1 rfl _ ?_)
                · simp [vW,bw_map,mapAt_map,mapClo_it,mapClo_nil,mapClo_cons,vP,vZ,Tr.get_set,hh,hm1]
                · simp [vW,bw_map,mapAt_map,mapClo_it,mapClo_nil,mapClo_cons,vP,vZ,Tr.get_set,cList,nvs_self,rN_clos,rC_clos,cWord,hh,hm1]
                · simp
                · intro t' h' hw
                  simp only [↓vS,cvF_pc,vP,shb,shv,shvs,she_nil,she_cons,vC,vQ,Nat.reduceEqDiff,↓reduceIte,eq_self,Nat.reduceAdd,Nat.reduceMul,Nat.reduceSub,Nat.reduceLeDiff,Nat.reduceLT,defd,cellsOf,wr,packR,Int.reduceLE,Int.reduceLT,Int.reduceEq,Int.cast_ofNat_Int,Int.reduceToNat]
                  exact S.weak hw (step_up true false (wayI false) (words v) j (by omega) _ _ _ (fun t'' h'' hw'=>ih2 (by omega) (by omega) t'' h'' hw'))
          · have hin:decide (r.1.mode - 1 = if false = true then 1 else 0) = false:=by rw [hm1]; rfl
            simp only [↓vS,cvF_pc,vP,shb,shv,shvs,she_nil,she_cons,vC,vQ,Nat.reduceEqDiff,↓reduceIte,eq_self,Nat.reduceAdd,Nat.reduceMul,Nat.reduceSub,Nat.reduceLeDiff,Nat.reduceLT,defd,cellsOf,wr,packR,Int.reduceLE,Int.reduceLT,Int.reduceEq,Int.cast_ofNat_Int,Int.reduceToNat,hm1,hway,hu1,hu2,List.drop_succ_cons,List.drop_zero,List.take_succ_cons,List.take_zero,List.getElem?_cons_zero,List.getElem?_cons_succ]
            cases hh:(readM w).1.has with
            | false =>
              have hs:stepW E fl false r w = ((memM E (readM w).1.name).1.foldl (stepN false (readM w).1.act) r.1,r.2):=by
                unfold stepW; rw [if_neg (by simp [e1]),if_neg (by simp [e2]),if_pos hh,hin]
              rw [hs] at ih2
              simp only [↓vS,cvF_pc,vP,shb,shv,shvs,she_nil,she_cons,vC,vQ,Nat.reduceEqDiff,↓reduceIte,eq_self,Nat.reduceAdd,Nat.reduceMul,Nat.reduceSub,Nat.reduceLeDiff,Nat.reduceLT,defd,cellsOf,wr,packR,Int.reduceLE,Int.reduceLT,Int.reduceEq,Int.cast_ofNat_Int,Int.reduceToNat]
              refine S.weak (Wk.mk _ _ [0,1,2,3,5] ?_ ?_ ?_ rfl) (step_in h9 h10 fl false false (wayI false) (words v) (memM E (readM w).1.name).1 j r.1 (readM w).1 w r.2 (by omega) (by omega) k1 (by omega) hk.1 (readM_act w) _ ?_)
              · simp [vW,bw_map,mapAt_map,mapClo_it,mapClo_nil,mapClo_cons,vP,vZ,Tr.get_set,hh,hm1]
              · simp [vW,bw_map,mapAt_map,mapClo_it,mapClo_nil,mapClo_cons,vP,vZ,Tr.get_set,cList,nvs_self,rN_clos,rC_clos,cWord,hh,hm1]
              · simp
              · intro t' h' hw
                simp only [↓vS,cvF_pc,vP,shb,shv,shvs,she_nil,she_cons,vC,vQ,Nat.reduceEqDiff,↓reduceIte,eq_self,Nat.reduceAdd,Nat.reduceMul,Nat.reduceSub,Nat.reduceLeDiff,Nat.reduceLT,defd,cellsOf,wr,packR,Int.reduceLE,Int.reduceLT,Int.reduceEq,Int.cast_ofNat_Int,Int.reduceToNat]
                exact S.weak hw (step_up fl false (wayI false) (words v) j (by omega) _ _ _ (fun t'' h'' hw'=>ih2 (by omega) (by omega) t'' h'' hw'))
            | true =>
              cases fl with
              | false =>
                have hs:stepW E false false r w = ((memM E (readM w).1.name).1.foldl (stepN false 0) r.1,r.2 ++ [noteW 161 w]):=by
                  unfold stepW; rw [if_neg (by simp [e1]),if_neg (by simp [e2]),if_neg (by simp [hh]),if_pos (by decide),hin]
                rw [hs] at ih2
                simp only [↓vS,cvF_pc,vP,shb,shv,shvs,she_nil,she_cons,vC,vQ,Nat.reduceEqDiff,↓reduceIte,eq_self,Nat.reduceAdd,Nat.reduceMul,Nat.reduceSub,Nat.reduceLeDiff,Nat.reduceLT,defd,cellsOf,wr,packR,Int.reduceLE,Int.reduceLT,Int.reduceEq,Int.cast_ofNat_Int,Int.reduceToNat]
                refine (h5 r.2 161 w (by simp only [roomB]; omega)).sc (vs:=[.i .i64 161,.ptr 0 0,.ptr 1 0]) [2,4,3] (Lent.of (by decide) ?_) ?_
                · simp [lent_cons,lent_nil,pushs_cons,pushs_nil,push_mk,shb,shv,shvs,bnds,bnd,rnvs,rnv,gAt,vW,bw_map,mapAt_map,mapClo_it,mapClo_nil,mapClo_cons,vP,vZ,Tr.get_set,bnds_clo rN_clos,rnvs_clo rN_clos,bnd_clo,clo,rnv_clo]
                simp only [backH,List.cons_append,List.nil_append,List.length_cons,List.length_nil,Nat.zero_add,Nat.reduceAdd,List.take_succ_cons,List.take_zero,List.drop_succ_cons,List.drop_zero,List.map_cons,List.map_nil,rnb,rnvs,rnv,gAt,Nat.reduceLT,↓reduceIte,List.getD_cons_zero,List.getD_cons_succ,Nat.reduceSub,puts_cons,puts_nil,pushs_cons,pushs_nil,hput_mk,push_mk,rnvs_clo rN_clos,rnv_clo,clo]
                simp only [↓vS,cvF_pc,vP,shb,shv,shvs,she_nil,she_cons,vC,vQ,Nat.reduceEqDiff,↓reduceIte,eq_self,Nat.reduceAdd,Nat.reduceMul,Nat.reduceSub,Nat.reduceLeDiff,Nat.reduceLT,defd,cellsOf,wr,packR,Int.reduceLE,Int.reduceLT,Int.reduceEq,Int.cast_ofNat_Int,Int.reduceToNat]
                refine S.weak (Wk.mk _ _ [0,1,2,6,5] ?_ ?_ ?_ rfl) (step_in h9 h10 false false false (wayI false) (words v) (memM E (readM w).1.name).1 j r.1 ⟨(readM w).1.name,0,(readM w).1.has⟩ w (r.2 ++ [noteW 161 w]) (by omega) (by omega) k1 (by omega) hk.1 rfl _ ?_)
                · simp [vW,bw_map,mapAt_map,mapClo_it,mapClo_nil,mapClo_cons,vP,vZ,Tr.get_set,hh,hm1]
                · simp [vW,bw_map,mapAt_map,mapClo_it,mapClo_nil,mapClo_cons,vP,vZ,Tr.get_set,cList,nvs_self,rN_clos,rC_clos,cWord,hh,hm1]
                · simp
                · intro t' h' hw
                  simp only [↓vS,cvF_pc,vP,shb,shv,shvs,she_nil,she_cons,vC,vQ,Nat.reduceEqDiff,↓reduceIte,eq_self,Nat.reduceAdd,Nat.reduceMul,Nat.reduceSub,Nat.reduceLeDiff,Nat.reduceLT,defd,cellsOf,wr,packR,Int.reduceLE,Int.reduceLT,Int.reduceEq,Int.cast_ofNat_Int,Int.reduceToNat]
                  exact S.weak hw (step_up false false (wayI false) (words v) j (by omega) _ _ _ (fun t'' h'' hw'=>ih2 (by omega) (by omega) t'' h'' hw'))
              | true =>
                have hs:stepW E true false r w = ((memM E (readM w).1.name).1.foldl (stepN false 0) r.1,r.2 ++ [noteW 161 w]):=by
                  unfold stepW; rw [if_neg (by simp [e1]),if_neg (by simp [e2]),if_neg (by simp [hh]),if_pos (by decide),hin]
                rw [hs] at ih2
                simp only [↓vS,cvF_pc,vP,shb,shv,shvs,she_nil,she_cons,vC,vQ,Nat.reduceEqDiff,↓reduceIte,eq_self,Nat.reduceAdd,Nat.reduceMul,Nat.reduceSub,Nat.reduceLeDiff,Nat.reduceLT,defd,cellsOf,wr,packR,Int.reduceLE,Int.reduceLT,Int.reduceEq,Int.cast_ofNat_Int,Int.reduceToNat]
                refine (h5 r.2 161 w (by simp only [roomB]; omega)).sc (vs:=[.i .i64 161,.ptr 0 0,.ptr 1 0]) [2,4,3] (Lent.of (by decide) ?_) ?_
                · simp [lent_cons,lent_nil,pushs_cons,pushs_nil,push_mk,shb,shv,shvs,bnds,bnd,rnvs,rnv,gAt,vW,bw_map,mapAt_map,mapClo_it,mapClo_nil,mapClo_cons,vP,vZ,Tr.get_set,bnds_clo rN_clos,rnvs_clo rN_clos,bnd_clo,clo,rnv_clo]
                simp only [backH,List.cons_append,List.nil_append,List.length_cons,List.length_nil,Nat.zero_add,Nat.reduceAdd,List.take_succ_cons,List.take_zero,List.drop_succ_cons,List.drop_zero,List.map_cons,List.map_nil,rnb,rnvs,rnv,gAt,Nat.reduceLT,↓reduceIte,List.getD_cons_zero,List.getD_cons_succ,Nat.reduceSub,puts_cons,puts_nil,pushs_cons,pushs_nil,hput_mk,push_mk,rnvs_clo rN_clos,rnv_clo,clo]
                simp only [↓vS,cvF_pc,vP,shb,shv,shvs,she_nil,she_cons,vC,vQ,Nat.reduceEqDiff,↓reduceIte,eq_self,Nat.reduceAdd,Nat.reduceMul,Nat.reduceSub,Nat.reduceLeDiff,Nat.reduceLT,defd,cellsOf,wr,packR,Int.reduceLE,Int.reduceLT,Int.reduceEq,Int.cast_ofNat_Int,Int.reduceToNat]
                refine S.weak (Wk.mk _ _ [0,1,2,6,5] ?_ ?_ ?_ rfl) (step_in h9 h10 true false false (wayI false) (words v) (memM E (readM w).1.name).1 j r.1 ⟨(readM w).1.name,0,(readM w).1.has⟩ w (r.2 ++ [noteW 161 w]) (by omega) (by omega) k1 (by omega) hk.1 rfl _ ?_)
                · simp [vW,bw_map,mapAt_map,mapClo_it,mapClo_nil,mapClo_cons,vP,vZ,Tr.get_set,hh,hm1]
                · simp [vW,bw_map,mapAt_map,mapClo_it,mapClo_nil,mapClo_cons,vP,vZ,Tr.get_set,cList,nvs_self,rN_clos,rC_clos,cWord,hh,hm1]
                · simp
                · intro t' h' hw
                  simp only [↓vS,cvF_pc,vP,shb,shv,shvs,she_nil,she_cons,vC,vQ,Nat.reduceEqDiff,↓reduceIte,eq_self,Nat.reduceAdd,Nat.reduceMul,Nat.reduceSub,Nat.reduceLeDiff,Nat.reduceLT,defd,cellsOf,wr,packR,Int.reduceLE,Int.reduceLT,Int.reduceEq,Int.cast_ofNat_Int,Int.reduceToNat]
                  exact S.weak hw (step_up true false (wayI false) (words v) j (by omega) _ _ _ (fun t'' h'' hw'=>ih2 (by omega) (by omega) t'' h'' hw'))
      · have hs:stepW E fl t r w = (r.1,r.2 ++ [noteW (memM E (readM w).1.name).2 w]):=by unfold stepW; rw [if_neg (by simp [e1]),if_pos e2]
        rw [hs] at ih2
        simp only [↓vS,cvF_pc,vP,shb,shv,shvs,she_nil,she_cons,vC,vQ,Nat.reduceEqDiff,↓reduceIte,eq_self,Nat.reduceAdd,Nat.reduceMul,Nat.reduceSub,Nat.reduceLeDiff,Nat.reduceLT,defd,cellsOf,wr,packR,Int.reduceLE,Int.reduceLT,Int.reduceEq,Int.cast_ofNat_Int,Int.reduceToNat,e2]
        refine (h5 r.2 (memM E (readM w).1.name).2 w (by simp only [roomB]; omega)).sc (vs:=[.i .i64 (memM E (readM w).1.name).2,.ptr 0 0,.ptr 1 0]) [2,4,3] (Lent.of (by decide) ?_) ?_
        · simp [lent_cons,lent_nil,pushs_cons,pushs_nil,push_mk,shb,shv,shvs,bnds,bnd,rnvs,rnv,gAt,vW,bw_map,mapAt_map,mapClo_it,mapClo_nil,mapClo_cons,vP,vZ,Tr.get_set,bnds_clo rN_clos,rnvs_clo rN_clos,bnd_clo,clo,rnv_clo]
        simp only [backH,List.cons_append,List.nil_append,List.length_cons,List.length_nil,Nat.zero_add,Nat.reduceAdd,List.take_succ_cons,List.take_zero,List.drop_succ_cons,List.drop_zero,List.map_cons,List.map_nil,rnb,rnvs,rnv,gAt,Nat.reduceLT,↓reduceIte,List.getD_cons_zero,List.getD_cons_succ,Nat.reduceSub,puts_cons,puts_nil,pushs_cons,pushs_nil,hput_mk,push_mk,rnvs_clo rN_clos,rnv_clo,clo]
        simp only [↓vS,cvF_pc,vP,shb,shv,shvs,she_nil,she_cons,vC,vQ,Nat.reduceEqDiff,↓reduceIte,eq_self,Nat.reduceAdd,Nat.reduceMul,Nat.reduceSub,Nat.reduceLeDiff,Nat.reduceLT,defd,cellsOf,wr,packR,Int.reduceLE,Int.reduceLT,Int.reduceEq,Int.cast_ofNat_Int,Int.reduceToNat]
        refine S.weak (Wk.mk _ _ [0,1,2,6] ?_ ?_ ?_ rfl) (step_up fl t (wayI t) (words v) j (by omega) r.1 (r.2 ++ [noteW (memM E (readM w).1.name).2 w]) _ (fun t' h' hw=>ih2 (by omega) (by omega) t' h' hw))
        · simp [vW,bw_map,mapAt_map,mapClo_it,mapClo_nil,mapClo_cons,vP,vZ,Tr.get_set]
        · simp [vW,bw_map,mapAt_map,mapClo_it,mapClo_nil,mapClo_cons,vP,vZ,Tr.get_set,cList,nvs_self,rN_clos,rC_clos]
        · simp
    · have hs:stepW E fl t r w = (r.1,r.2 ++ [noteW (readM w).2 w]):=by unfold stepW; rw [if_pos e1]
      rw [hs] at ih2
      simp only [↓vS,cvF_pc,vP,shb,shv,shvs,she_nil,she_cons,vC,vQ,Nat.reduceEqDiff,↓reduceIte,eq_self,Nat.reduceAdd,Nat.reduceMul,Nat.reduceSub,Nat.reduceLeDiff,Nat.reduceLT,defd,cellsOf,wr,packR,Int.reduceLE,Int.reduceLT,Int.reduceEq,Int.cast_ofNat_Int,Int.reduceToNat,e1]
      refine (h5 r.2 (readM w).2 w (by simp only [roomB]; omega)).sc (vs:=[.i .i64 (readM w).2,.ptr 0 0,.ptr 1 0]) [2,4,3] (Lent.of (by decide) ?_) ?_
      · simp [lent_cons,lent_nil,pushs_cons,pushs_nil,push_mk,shb,shv,shvs,bnds,bnd,rnvs,rnv,gAt,vW,bw_map,mapAt_map,mapClo_it,mapClo_nil,mapClo_cons,vP,vZ,Tr.get_set,bnds_clo rN_clos,rnvs_clo rN_clos,bnd_clo,clo,rnv_clo]
      simp only [backH,List.cons_append,List.nil_append,List.length_cons,List.length_nil,Nat.zero_add,Nat.reduceAdd,List.take_succ_cons,List.take_zero,List.drop_succ_cons,List.drop_zero,List.map_cons,List.map_nil,rnb,rnvs,rnv,gAt,Nat.reduceLT,↓reduceIte,List.getD_cons_zero,List.getD_cons_succ,Nat.reduceSub,puts_cons,puts_nil,pushs_cons,pushs_nil,hput_mk,push_mk,rnvs_clo rN_clos,rnv_clo,clo]
      simp only [↓vS,cvF_pc,vP,shb,shv,shvs,she_nil,she_cons,vC,vQ,Nat.reduceEqDiff,↓reduceIte,eq_self,Nat.reduceAdd,Nat.reduceMul,Nat.reduceSub,Nat.reduceLeDiff,Nat.reduceLT,defd,cellsOf,wr,packR,Int.reduceLE,Int.reduceLT,Int.reduceEq,Int.cast_ofNat_Int,Int.reduceToNat]
      refine S.weak (Wk.mk _ _ [0,1,2,6] ?_ ?_ ?_ rfl) (step_up fl t (wayI t) (words v) j (by omega) r.1 (r.2 ++ [noteW (readM w).2 w]) _ (fun t' h' hw=>ih2 (by omega) (by omega) t' h' hw))
      · simp [vW,bw_map,mapAt_map,mapClo_it,mapClo_nil,mapClo_cons,vP,vZ,Tr.get_set]
      · simp [vW,bw_map,mapAt_map,mapClo_it,mapClo_nil,mapClo_cons,vP,vZ,Tr.get_set,cList,nvs_self,rN_clos,rC_clos]
      · simp
  · have hjl:(words v).take j = words v:=List.take_of_length_le (by omega)
    rw [hjl] at hr
    rw [hr]
    simp only [cList]
    simp only [↓vS,cvF_pc,vP,shb,shv,shvs,she_nil,she_cons,vC,vQ,Nat.reduceEqDiff,↓reduceIte,eq_self,Nat.reduceAdd,Nat.reduceMul,Nat.reduceSub,Nat.reduceLeDiff,Nat.reduceLT,defd,cellsOf,wr,packR,Int.reduceLE,Int.reduceLT,Int.reduceEq,Int.cast_ofNat_Int,Int.reduceToNat,hlt]
    refine VD_pc ?_
    simp only [↓vS,cvF_pc,vP,shb,shv,shvs,she_nil,she_cons,vC,vQ,Nat.reduceEqDiff,↓reduceIte,eq_self,Nat.reduceAdd,Nat.reduceMul,Nat.reduceSub,Nat.reduceLeDiff,Nat.reduceLT,defd,cellsOf,wr,packR,Int.reduceLE,Int.reduceLT,Int.reduceEq,Int.cast_ofNat_Int,Int.reduceToNat,not_false_eq_true]
    intro _
    refine ⟨[3],?_⟩
    simp [vW,bw_map,mapAt_map,mapClo_it,mapClo_nil,mapClo_cons,vP,vZ,Tr.get_set,cList,nvs_self,rN_clos,rC_clos]
end Go.Kc
end
