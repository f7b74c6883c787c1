/- Part 9 of the abstract machine and of the functions' walks. Conditions: with each theorem. -/
import Derived.Test.YtdmjpfekglajoaaK8
set_option linter.unusedSimpArgs false
set_option linter.unusedVariables false
set_option linter.unnecessarySimpa false
section
/- What fold.Step answers, whole. Condition: the functions' texts are these. -/
namespace Go.Kc
variable {P:Program} {f:Nat}
def cCopP (P:Program) (f:Nat):Prop:=∀ l:GList,l.calls.length ≤ 100000 → Pure P f [.agg (cList l)] (.agg (cList l))
theorem cCop_pure (h:cCop P f):cCopP P f:=by
  intro l hl
  refine (h l hl).pure rfl ?_
  simp only [H0,pushs_cons,pushs_nil,push_mk,shb,shv,shvs,she_nil,she_cons,List.map_cons,List.map_nil,up_mk,down_mk,Nat.reduceAdd,Nat.zero_add]
  simp [vZ,vP,Tr.get_set,cList,frzs_self rC_clos,shvs_clo rC_clos]
  intro h0; rw [h0]; rfl
def cStepO (E:List UInt8 → List (List UInt8) × Int) (P:Program) (f:Nat):Prop:=∀ (l:GList) (v:List UInt8) (fl:Bool),l.calls.length ≤ 100000 → v.length ≤ 1000 → 0 ≤ l.mode →
  Own P f [.agg (cList l),.s v,.b fl] (.tup [.agg (cList (stepM E l v fl).1),.own 0 (stepM E l v fl).2.length]) [.cells 4 true true (rN (stepM E l v fl).2)]
def cStep (E:List UInt8 → List (List UInt8) × Int) (P:Program) (f:Nat):Prop:=∀ (l:GList) (v:List UInt8) (fl:Bool),l.calls.length ≤ 100000 → v.length ≤ 1000 → 0 ≤ l.mode →
  Pure P f [.agg (cList l),.s v,.b fl] (.tup [.agg (cList (stepM E l v fl).1),.fz (stepM E l v fl).2.length (rN (stepM E l v fl).2)])
theorem step_own {g1 g2 g3 g4 g5 g6 g7 g8 g9 g10:Nat} {E:List UInt8 → List (List UInt8) × Int} (hc:chkFn P f (ir_fold_Step g1 g2 g3 g4 g5 g6 g7 g8 g9 g10) = true) (hE:ExpOk E) (h1:cCopP P g1) (h2:cMay P g2) (h3:cWords P g3) (h4:cTurned P g4) (h5:cStep1 P g5) (h6:cRead P g6) (h7:cExp (memM E) P g7) (h8:cIns P g8) (h9:cPut P g9) (h10:cTake P g10):cStepO E P f:=by
  intro l v fl hl hv hm0
  have htl:=turnP_len v
  refine Own.mk hc rfl ?_
  simp only [ir_fold_Step,cList,argsT,H0,mkT,mkH,trL,List.length_cons,List.length_nil,Nat.reduceAdd,Nat.zero_add]
  simp only [↓vS,cvF_pc,vP,shb,shv,shvs,she_nil,she_cons,vC,vQ,Nat.reduceEqDiff,↓reduceIte,eq_self,Nat.reduceAdd,Nat.reduceMul,Nat.reduceSub,Nat.reduceLeDiff,Nat.reduceLT,defd,cellsOf,wr,packR,Int.reduceLE,Int.reduceLT,Int.reduceEq,Int.cast_ofNat_Int,Int.reduceToNat]
  refine (h1 l hl).sc ?_
  simp only [↓vS,cvF_pc,vP,shb,shv,shvs,she_nil,she_cons,vC,vQ,Nat.reduceEqDiff,↓reduceIte,eq_self,Nat.reduceAdd,Nat.reduceMul,Nat.reduceSub,Nat.reduceLeDiff,Nat.reduceLT,defd,cellsOf,wr,packR,Int.reduceLE,Int.reduceLT,Int.reduceEq,Int.cast_ofNat_Int,Int.reduceToNat,cList]
  refine (h2 l hl).sc ?_
  cases hM:mayM l with
  | false =>
    have hs:stepM E l v fl = (l,[]):=if_pos hM
    rw [hs]
    simp only [↓vS,cvF_pc,vP,shb,shv,shvs,she_nil,she_cons,vC,vQ,Nat.reduceEqDiff,↓reduceIte,eq_self,Nat.reduceAdd,Nat.reduceMul,Nat.reduceSub,Nat.reduceLeDiff,Nat.reduceLT,defd,cellsOf,wr,packR,Int.reduceLE,Int.reduceLT,Int.reduceEq,Int.cast_ofNat_Int,Int.reduceToNat]
    intro _
    refine ⟨[2],?_⟩
    simp [vW,bw_map,mapAt_map,mapClo_it,mapClo_nil,mapClo_cons,vP,vZ,Tr.get_set,cList,nvs_self,rC_clos,rN]
  | true =>
    have hmm:=((mayM_iff l).1 hM).1
    simp only [↓vS,cvF_pc,vP,shb,shv,shvs,she_nil,she_cons,vC,vQ,Nat.reduceEqDiff,↓reduceIte,eq_self,Nat.reduceAdd,Nat.reduceMul,Nat.reduceSub,Nat.reduceLeDiff,Nat.reduceLT,defd,cellsOf,wr,packR,Int.reduceLE,Int.reduceLT,Int.reduceEq,Int.cast_ofNat_Int,Int.reduceToNat]
    refine (h3 v (by omega)).sc ?_
    by_cases hw:words v = []
    · have hs:stepM E l v fl = (⟨0,[]⟩,[]):=by unfold stepM; rw [if_neg (by simp [hM]),if_pos hw]
      rw [hs]
      simp only [↓vS,cvF_pc,vP,shb,shv,shvs,she_nil,she_cons,vC,vQ,Nat.reduceEqDiff,↓reduceIte,eq_self,Nat.reduceAdd,Nat.reduceMul,Nat.reduceSub,Nat.reduceLeDiff,Nat.reduceLT,defd,cellsOf,wr,packR,Int.reduceLE,Int.reduceLT,Int.reduceEq,Int.cast_ofNat_Int,Int.reduceToNat,hw,List.length_nil]
      intro _
      refine ⟨[2],?_⟩
      simp [vW,bw_map,mapAt_map,mapClo_it,mapClo_nil,mapClo_cons,vP,vZ,Tr.get_set,cList,nvs_self,rC,rN]
    · have hwn:¬ ((words v).length:Int) = 0:=by have:=List.length_pos_iff.2 hw; omega
      have hs:stepM E l v fl = (words (turnP v).1).foldl (stepW E fl (turnP v).2) (⟨if l.mode = 0 then (if (turnP v).2 = true then 2 else 1) else l.mode,l.calls⟩,[]):=by
        unfold stepM; rw [if_neg (by simp [hM]),if_neg hw]
      rw [hs]
      simp only [↓vS,cvF_pc,vP,shb,shv,shvs,she_nil,she_cons,vC,vQ,Nat.reduceEqDiff,↓reduceIte,eq_self,Nat.reduceAdd,Nat.reduceMul,Nat.reduceSub,Nat.reduceLeDiff,Nat.reduceLT,defd,cellsOf,wr,packR,Int.reduceLE,Int.reduceLT,Int.reduceEq,Int.cast_ofNat_Int,Int.reduceToNat,hwn]
      refine (h4 v).sc ?_
      rw [cut_turn]
      have key:∀ (m:Int),m = (if l.mode = 0 then (if (turnP v).2 = true then 2 else 1) else l.mode) → mayM ⟨m,l.calls⟩ = true ∧ (m = 1 ∨ m = 2):=by
        intro m hm
        have h12:m = 1 ∨ m = 2:=by
          rw [hm]; split
          · split <;> simp
          · have:=hmm.1; omega
        obtain ⟨_,a1,a2⟩:=(mayM_iff l).1 hM
        exact ⟨(mayM_iff _).2 ⟨⟨by dsimp only; omega,.inl (by dsimp only; omega)⟩,a1,a2⟩,h12⟩
      cases ht:(turnP v).2 with
      | true =>
        by_cases h0:l.mode = 0
        · have hu:IntKind.wrap .u8 (1 + 1) = 2:=by decide
          have hu1:IntKind.wrap .u8 1 = 1:=by decide
          obtain ⟨k1,k2⟩:=key 2 (by rw [h0,ht]; rfl)
          rw [show (if l.mode = 0 then (if true = true then (2:Int) else 1) else l.mode) = 2 from by rw [h0]; rfl]
          simp only [↓vS,cvF_pc,vP,shb,shv,shvs,she_nil,she_cons,vC,vQ,Nat.reduceEqDiff,↓reduceIte,eq_self,Nat.reduceAdd,Nat.reduceMul,Nat.reduceSub,Nat.reduceLeDiff,Nat.reduceLT,defd,cellsOf,wr,packR,Int.reduceLE,Int.reduceLT,Int.reduceEq,Int.cast_ofNat_Int,Int.reduceToNat,h0,hu,hu1]
          refine S.weak (Wk.mk _ _ [0,1,2,3] ?_ ?_ ?_ rfl) (step_c9 hE h3 h5 h6 h7 h8 h9 h10 fl true (turnP v).1 (by omega) ⟨2,l.calls⟩ k1 k2)
          · simp [vW,bw_map,mapAt_map,mapClo_it,mapClo_nil,mapClo_cons,vP,vZ,Tr.get_set,wayI]
          · simp [vW,bw_map,mapAt_map,mapClo_it,mapClo_nil,mapClo_cons,vP,vZ,Tr.get_set,cList,nvs_self,rC_clos]
          · simp
        · obtain ⟨k1,k2⟩:=key l.mode (by rw [if_neg h0])
          rw [show (if l.mode = 0 then (if true = true then (2:Int) else 1) else l.mode) = l.mode from if_neg h0]
          simp only [↓vS,cvF_pc,vP,shb,shv,shvs,she_nil,she_cons,vC,vQ,Nat.reduceEqDiff,↓reduceIte,eq_self,Nat.reduceAdd,Nat.reduceMul,Nat.reduceSub,Nat.reduceLeDiff,Nat.reduceLT,defd,cellsOf,wr,packR,Int.reduceLE,Int.reduceLT,Int.reduceEq,Int.cast_ofNat_Int,Int.reduceToNat,h0]
          refine S.weak (Wk.mk _ _ [0,1,2,3] ?_ ?_ ?_ rfl) (step_c9 hE h3 h5 h6 h7 h8 h9 h10 fl true (turnP v).1 (by omega) ⟨l.mode,l.calls⟩ k1 k2)
          · simp [vW,bw_map,mapAt_map,mapClo_it,mapClo_nil,mapClo_cons,vP,vZ,Tr.get_set,wayI]
          · simp [vW,bw_map,mapAt_map,mapClo_it,mapClo_nil,mapClo_cons,vP,vZ,Tr.get_set,cList,nvs_self,rC_clos]
          · simp
      | false =>
        by_cases h0:l.mode = 0
        · have hu:IntKind.wrap .u8 (1 + 0) = 1:=by decide
          have hu1:IntKind.wrap .u8 0 = 0:=by decide
          obtain ⟨k1,k2⟩:=key 1 (by rw [h0,ht]; rfl)
          rw [show (if l.mode = 0 then (if false = true then (2:Int) else 1) else l.mode) = 1 from by rw [h0]; rfl]
          simp only [↓vS,cvF_pc,vP,shb,shv,shvs,she_nil,she_cons,vC,vQ,Nat.reduceEqDiff,↓reduceIte,eq_self,Nat.reduceAdd,Nat.reduceMul,Nat.reduceSub,Nat.reduceLeDiff,Nat.reduceLT,defd,cellsOf,wr,packR,Int.reduceLE,Int.reduceLT,Int.reduceEq,Int.cast_ofNat_Int,Int.reduceToNat,h0,hu,hu1]
          refine S.weak (Wk.mk _ _ [0,1,2,3] ?_ ?_ ?_ rfl) (step_c9 hE h3 h5 h6 h7 h8 h9 h10 fl false (turnP v).1 (by omega) ⟨1,l.calls⟩ k1 k2)
          · simp [vW,bw_map,mapAt_map,mapClo_it,mapClo_nil,mapClo_cons,vP,vZ,Tr.get_set,wayI]
          · simp [vW,bw_map,mapAt_map,mapClo_it,mapClo_nil,mapClo_cons,vP,vZ,Tr.get_set,cList,nvs_self,rC_clos]
          · simp
        · obtain ⟨k1,k2⟩:=key l.mode (by rw [if_neg h0])
          rw [show (if l.mode = 0 then (if false = true then (2:Int) else 1) else l.mode) = l.mode from if_neg h0]
          simp only [↓vS,cvF_pc,vP,shb,shv,shvs,she_nil,she_cons,vC,vQ,Nat.reduceEqDiff,↓reduceIte,eq_self,Nat.reduceAdd,Nat.reduceMul,Nat.reduceSub,Nat.reduceLeDiff,Nat.reduceLT,defd,cellsOf,wr,packR,Int.reduceLE,Int.reduceLT,Int.reduceEq,Int.cast_ofNat_Int,Int.reduceToNat,h0]
          refine S.weak (Wk.mk _ _ [0,1,2,3] ?_ ?_ ?_ rfl) (step_c9 hE h3 h5 h6 h7 h8 h9 h10 fl false (turnP v).1 (by omega) ⟨l.mode,l.calls⟩ k1 k2)
          · simp [vW,bw_map,mapAt_map,mapClo_it,mapClo_nil,mapClo_cons,vP,vZ,Tr.get_set,wayI]
          · simp [vW,bw_map,mapAt_map,mapClo_it,mapClo_nil,mapClo_cons,vP,vZ,Tr.get_set,cList,nvs_self,rC_clos]
          · simp
theorem cStep_pure {E:List UInt8 → List (List UInt8) × Int} (h:cStepO E P f):cStep E P f:=by
  intro l v fl hl hv hm
  refine (h l v fl hl hv hm).pure rfl ?_
  simp only [H0,pushs_cons,pushs_nil,push_mk,shb,shv,shvs,she_nil,she_cons,List.map_cons,List.map_nil,up_mk,down_mk,Nat.reduceAdd,Nat.zero_add]
  simp [vZ,vP,Tr.get_set,cList,frzs_self rC_clos,frzs_self rN_clos,shvs_clo rC_clos,shvs_clo rN_clos,shvs,shv]
  intro h0; rw [h0]; rfl
end Go.Kc
end
section
/- FoldKeeps, FoldTwice: what the laws answer. Condition: the functions' texts are these. -/
namespace Go.Kc
variable {P:Program} {f:Nat}
end Go.Kc
end
section
/- FoldOne: what the law answers. Condition: the functions' texts are these. -/
namespace Go.Kc
variable {P:Program} {f:Nat}
end Go.Kc
end
section
/- What values come to, as the kernel can count it. No condition. -/
namespace Go.Kc
variable (E:List UInt8 → List (List UInt8) × Int)
noncomputable def foldS (fl:Bool) (s:GList × List GNote) (v:List UInt8):GList × List GNote:=((stepM E s.1 v fl).1,s.2 ++ (stepM E s.1 v fl).2)
noncomputable def foldM (l:List (List UInt8)) (fl:Bool):GList × List GNote:=l.foldl (foldS E fl) (⟨0,[]⟩,[])
end Go.Kc
end
section
/- What fold.Fold answers; the law's comes. Condition: the functions' texts are these. -/
namespace Go.Kc
variable {P:Program} {f:Nat}
theorem foldS_ok {E:List UInt8 → List (List UInt8) × Int} (hE:ExpOk E) (fl:Bool):∀ (l:List (List UInt8)) (s:GList × List GNote),mayM s.1 = true → 0 ≤ s.1.mode → (∀ v ∈ l,v.length ≤ 1000) →
    mayM (l.foldl (foldS E fl) s).1 = true ∧ 0 ≤ (l.foldl (foldS E fl) s).1.mode ∧ (l.foldl (foldS E fl) s).2.length ≤ s.2.length + 1000 * l.length
  | [],s,h,h0,_=>⟨h,h0,by simp⟩
  | v :: l,s,h,h0,hv=>by
    have h1:=stepM_may hE h v fl
    have h2:0 ≤ (stepM E s.1 v fl).1.mode:=by
      by_cases hw:words v = []
      · rw [stepM_none h fl hw]; decide
      · rw [stepM_mode h fl hw]; unfold modeM; split; (split <;> decide); exact h0
    have h3:=stepM_len (E:=E) s.1 v fl
    have h4:=hv v List.mem_cons_self
    obtain ⟨k1,k2,k3⟩:=foldS_ok hE fl l (foldS E fl s v) h1 h2 (fun x hx=>hv x (List.mem_cons_of_mem _ hx))
    refine ⟨k1,k2,?_⟩
    have e:(foldS E fl s v).2.length = s.2.length + (stepM E s.1 v fl).2.length:=by simp [foldS]
    rw [e] at k3
    simp only [List.foldl_cons,List.length_cons]; omega
def cFold (E:List UInt8 → List (List UInt8) × Int) (P:Program) (f:Nat):Prop:=∀ (l:List (List UInt8)) (fl:Bool),l.length ≤ 100 → (∀ v ∈ l,v.length ≤ 1000) →
  Pure P f [.fz l.length (rS l),.b fl] (.tup [.agg (cList (foldM E l fl).1),.fz (foldM E l fl).2.length (rN (foldM E l fl).2)])
def ir_fold_Fold (f_fold_Step:Nat):IFn:=⟨[.cell 4 2 true,.tmp 5],
  .seq (.reg false [⟨(some 4),.op (.alloc [.i .u8 0,.nils]),none⟩,
    ⟨(some 5),.op (.mov (.c (.nils))),none⟩])
  (.seq (.reg false [⟨(some 6),.op (.alloc [.i .u8 0,.nils]),none⟩])
  (.seq (.reg false [⟨(some 7),.op (.mov (.c (.nils))),none⟩])
  (.seq (.seq (.reg false [⟨(some 12),.op (.mov (.t 0)),none⟩,
    ⟨(some 13),.op (.len false (.t 12)),none⟩,
    ⟨(some 14),.op (.mov (.c (.i .i64 0))),none⟩])
  (.blk 0 (.loop (.seq (.reg false [⟨(some 15),.op (.bin .lss (.t 14) (.t 13)),none⟩])
  (.seq (.cond (.t 15) (.skip) (.exit 0))
  (.seq (.blk 1 (.seq (.reg false [⟨(some 16),.op (.iAddrS 1 (.t 12) (.t 14)),none⟩,
    ⟨(some 17),.op (.load1 (.t 16)),none⟩,
    ⟨(some 9),.op (.mov (.t 17)),none⟩])
  (.seq (.reg false [⟨(some 19),.op (.loadN 2 (.t 6)),none⟩,
    ⟨(some 20),.op (.mov (.t 9)),none⟩,
    ⟨(some 21),.op (.mov (.t 1)),none⟩,
    ⟨(some 22),.callF f_fold_Step [(.t 19),(.t 20),(.t 21)],none⟩,
    ⟨(some 18),.op (.mov (.t 22)),none⟩,
    ⟨(some 23),.op (.ext (.t 18) 0),none⟩,
    ⟨(some 24),.op (.ext (.t 18) 1),none⟩,
    ⟨(some 10),.op (.alloc [.i .u8 0,.nils]),none⟩,
    ⟨none,.op (.store 2 (.t 10) (.t 23)),none⟩,
    ⟨(some 11),.op (.mov (.t 24)),none⟩])
  (.reg true [⟨(some 25),.op (.loadN 2 (.t 10)),none⟩,
    ⟨(some 26),.op (.mov (.t 7)),none⟩,
    ⟨(some 27),.op (.mov (.t 11)),none⟩,
    ⟨(some 28),.op (.appD 4 48 (.t 26) (.t 27) [10]),none⟩,
    ⟨none,.op (.store 2 (.t 6) (.t 25)),none⟩,
    ⟨(some 7),.op (.mov (.t 28)),none⟩]))))
  (.reg false [⟨(some 29),.op (.bin .add (.t 14) (.c (.i .i64 1))),none⟩,
    ⟨(some 14),.op (.mov (.t 29)),none⟩])))))))
  (.seq (.reg false [⟨(some 30),.op (.loadN 2 (.t 6)),none⟩,
    ⟨(some 31),.op (.mov (.t 7)),none⟩,
    ⟨none,.op (.store 2 (.t 4) (.t 30)),none⟩,
    ⟨(some 5),.op (.mov (.t 31)),none⟩])
  (.ret)))))⟩
theorem fold_pure {g1:Nat} {E:List UInt8 → List (List UInt8) × Int} (hc:chkFn P f (ir_fold_Fold g1) = true) (hE:ExpOk E) (h1:cStep E P g1):cFold E P f:=by
  intro l fl hl hv
  refine Pure.mk hc (by simp [clos,clo,rS_clos]) ?_
  simp only [ir_fold_Fold,argsT,H0,mkT,mkH,trL,List.length_cons,List.length_nil,Nat.reduceAdd,Nat.zero_add]
  simp only [↓vS,cvF_pc,vP,shb,shv,shvs,she_nil,she_cons,vC,vQ,not_false_eq_true,Nat.reduceEqDiff,↓reduceIte,eq_self,Nat.reduceAdd,Nat.reduceMul,Nat.reduceSub,Nat.reduceLeDiff,Nat.reduceLT,defd,cellsOf,wr,packR,Int.reduceLE,Int.reduceLT,Int.reduceEq,Int.cast_ofNat_Int,Int.reduceToNat]
  refine SL.loop (α:=Nat) (fun j=>[(1,.b fl),(4,.ptr 0 0),(6,.ptr 1 0),(7,.own 2 ((l.take j).foldl (foldS E fl) (⟨0,[]⟩,[])).2.length),(12,.fz l.length (rS l)),(13,.i .i64 l.length),(14,.i .i64 j)])
    (fun j=>[.cells 0 true false [.i .u8 0,.nils],.cells 0 true false (cList ((l.take j).foldl (foldS E fl) (⟨0,[]⟩,[])).1),.cells 4 true true (rN ((l.take j).foldl (foldS E fl) (⟨0,[]⟩,[])).2)])
    (fun j=>j ≤ l.length) (fun j=>l.length - j) 0 [0,1,2] ?_ ?_ ?_ rfl ?_ ?_
  · simp [vW,bw_map,mapAt_map,mapClo_it,mapClo_nil,mapClo_cons,vP,vZ,Tr.get_set,rS_clos]
  · simp [vW,bw_map,mapAt_map,mapClo_it,mapClo_nil,mapClo_cons,vP,vZ,Tr.get_set,cList,nvs_self,rN_nil,rC_nil]
  · simp
  · exact Nat.zero_le _
  rintro j hj G ih
  obtain ⟨k1,k2,k3⟩:=foldS_ok hE fl (l.take j) (⟨0,[]⟩,[]) rfl (Int.le_refl 0) (fun v hx=>hv v (List.mem_of_mem_take hx))
  have k4:=may_len k1
  simp only [List.length_take,List.length_nil,Nat.zero_add] at k3
  generalize hr:(l.take j).foldl (foldS E fl) (⟨0,[]⟩,[]) = r at k1 k2 k3 k4 ih ⊢
  simp only [argsT,H0,mkT,mkH,trL,List.length_cons,List.length_nil,Nat.reduceAdd,Nat.zero_add,cList]
  by_cases hlt:j < l.length
  · have hx:(rS l)[j]? = some (.s l[j]):=by rw [rS_get,List.getElem?_eq_getElem hlt]; rfl
    have hwj:IntKind.wrap .i64 ((j:Int) + 1) = ((j + 1:Nat):Int):=by rw [wrap64 (by omega) (by omega)]; omega
    have hnext:(l.take (j + 1)).foldl (foldS E fl) (⟨0,[]⟩,[]) = foldS E fl r l[j]:=by
      rw [List.take_add_one,List.getElem?_eq_getElem hlt,List.foldl_append,hr]; rfl
    have ih2:=ih (j + 1)
    rw [hnext] at ih2
    have hvj:=hv l[j] (List.getElem_mem hlt)
    generalize l[j] = v at hx hnext hvj ih2
    have k5:=stepM_len (E:=E) r.1 v fl
    simp only [↓vS,cvF_pc,vP,shb,shv,shvs,she_nil,she_cons,vC,vQ,not_false_eq_true,Nat.reduceEqDiff,↓reduceIte,eq_self,Nat.reduceAdd,Nat.reduceMul,Nat.reduceSub,Nat.reduceLeDiff,Nat.reduceLT,defd,cellsOf,wr,packR,Int.reduceLE,Int.reduceLT,Int.reduceEq,Int.cast_ofNat_Int,Int.reduceToNat,hlt,hx,Nat.mul_one]
    refine (h1 r.1 v fl (by omega) hvj k2).sc ?_
    simp only [foldS] at ih2
    generalize stepM E r.1 v fl = R at k5 ih2 ⊢
    have hr1:r.2.length + R.2.length ≤ roomB:=by simp only [roomB]; omega
    have hr2:(r.2.length + R.2.length) * 48 ≤ roomB:=by simp only [roomB]; omega
    simp only [↓vS,cvF_pc,vP,shb,shv,shvs,she_nil,she_cons,vC,vQ,not_false_eq_true,Nat.reduceEqDiff,↓reduceIte,eq_self,Nat.reduceAdd,Nat.reduceMul,Nat.reduceSub,Nat.reduceLeDiff,Nat.reduceLT,defd,cellsOf,wr,packR,Int.reduceLE,Int.reduceLT,Int.reduceEq,Int.cast_ofNat_Int,Int.reduceToNat,cList]
    refine VD_pc ?_
    simp (decide:=true) only [↓vS,cvF_pc,vP,shb,shv,shvs,she_nil,she_cons,vC,vQ,not_false_eq_true,Nat.reduceEqDiff,↓reduceIte,eq_self,Nat.reduceAdd,Nat.reduceMul,Nat.reduceSub,Nat.reduceLeDiff,Nat.reduceLT,defd,cellsOf,wr,packR,Int.reduceLE,Int.reduceLT,Int.reduceEq,Int.cast_ofNat_Int,Int.reduceToNat,hr1,hr2,rN_len,rN_take,List.take_length,rN_app,rN_ok,hwj]
    refine ih2 (by omega) (by omega) _ _ (Wk.mk _ _ [0,1,4] ?_ ?_ ?_ rfl)
    · simp [vW,bw_map,mapAt_map,mapClo_it,mapClo_nil,mapClo_cons,vP,vZ,Tr.get_set,rS_clos]
    · simp [vW,bw_map,mapAt_map,mapClo_it,mapClo_nil,mapClo_cons,vP,vZ,Tr.get_set,cList,nvs_self,rN_clos,rC_clos]
    · simp
  · have hjl:l.take j = l:=List.take_of_length_le (by omega)
    rw [hjl] at hr
    have hR:foldM E l fl = r:=hr
    rw [hR]
    simp only [↓vS,cvF_pc,vP,shb,shv,shvs,she_nil,she_cons,vC,vQ,not_false_eq_true,Nat.reduceEqDiff,↓reduceIte,eq_self,Nat.reduceAdd,Nat.reduceMul,Nat.reduceSub,Nat.reduceLeDiff,Nat.reduceLT,defd,cellsOf,wr,packR,Int.reduceLE,Int.reduceLT,Int.reduceEq,Int.cast_ofNat_Int,Int.reduceToNat,hlt]
    simp [vZ,vP,Tr.get_set,cList,frzs_self rC_clos,frzs_self rN_clos]
    intro h0; rw [h0]; rfl
end Go.Kc
end
section
/- What filter.Set answers: its functions. Condition: the functions' texts are these. -/
namespace Go.Kc
variable {P:Program} {f:Nat}
def place (a:Asg) (n:GNote):GNote:=⟨a.file,a.line,n.err,n.text⟩
theorem rN_split {l:List GNote} {i:Nat} {c:GNote} (h:l[i]? = some c):rN l = rN (l.take i) ++ ([.s c.file,.i .i64 c.line,.i .i64 c.err,.s c.text] ++ rN (l.drop (i + 1))):=by
  obtain ⟨hi,rfl⟩:=List.getElem?_eq_some_iff.1 h
  have:l = l.take i ++ ([l[i]] ++ l.drop (i + 1)):=by
    rw [List.singleton_append,← List.drop_eq_getElem_cons hi,List.take_append_drop]
  conv=>lhs; rw [this]
  rw [← rN_app,← rN_app]; rfl
theorem rN_set {l:List GNote} {i:Nat} {c d:GNote} (h:l[i]? = some c):rN (l.set i d) = rN (l.take i) ++ ([.s d.file,.i .i64 d.line,.i .i64 d.err,.s d.text] ++ rN (l.drop (i + 1))):=by
  obtain ⟨hi,_⟩:=List.getElem?_eq_some_iff.1 h
  rw [List.set_eq_take_append_cons_drop,if_pos hi,← rN_app]; rfl
theorem rN_set0 {l:List GNote} {i:Nat} {c:GNote} (h:l[i]? = some c) (s:List UInt8):(rN l).take (i * 4) ++ (.s s :: (rN l).drop (i * 4 + 1)) = rN (l.set i ⟨s,c.line,c.err,c.text⟩):=by
  have hi:i ≤ l.length:=Nat.le_of_lt (List.getElem?_eq_some_iff.1 h).1
  have hl:(rN (l.take i)).length = i * 4:=by rw [rN_len,List.length_take]; omega
  rw [rN_set h,rN_split h,List.take_left' hl,← List.drop_drop,List.drop_left' hl]; rfl
theorem rN_set1 {l:List GNote} {i:Nat} {c:GNote} (h:l[i]? = some c) (n:Int):(rN l).take (i * 4 + 1) ++ (.i .i64 n :: (rN l).drop (i * 4 + 2)) = rN (l.set i ⟨c.file,n,c.err,c.text⟩):=by
  have hi:i ≤ l.length:=Nat.le_of_lt (List.getElem?_eq_some_iff.1 h).1
  have hl:(rN (l.take i)).length = i * 4:=by rw [rN_len,List.length_take]; omega
  rw [rN_set h,rN_split h,← hl,List.take_length_add_append,List.drop_length_add_append,List.append_assoc]; rfl
def ir_filter_keys_1:IFn:=⟨[.tmp 2],
  .seq (.reg false [⟨(some 2),.op (.mov (.c (.nilp))),none⟩])
  (.seq (.reg false [⟨(some 3),.op (.mov (.t 0)),none⟩,
    ⟨(some 4),.op (.nilChk (.t 3)),none⟩,
    ⟨(some 5),.op (.fAddr 1 (.t 4)),none⟩,
    ⟨(some 2),.op (.mov (.t 5)),none⟩])
  (.ret))⟩
theorem fkeys1 (hc:chkFn P f ir_filter_keys_1 = true) (p:Pol):Upd P f [.ptr 0 0] [.cells 0 true false (cPol p)] (.ptr 0 1) [.cells 0 true false (cPol p)]:=by
  refine Upd.mk hc (by simp [bnds,bnd]) (by simp) ?_
  simp only [ir_filter_keys_1,cPol,argsT,H0,mkT,mkH,trL,List.length_cons,List.length_nil,Nat.reduceAdd,Nat.zero_add]
  simp only [↓vS,cvF_pc,vP,shb,shv,shvs,she_nil,she_cons,vC,vQ,not_false_eq_true,Nat.reduceEqDiff,↓reduceIte,eq_self,Nat.reduceAdd,Nat.reduceMul,Nat.reduceSub,Nat.reduceLeDiff,Nat.reduceLT,defd,cellsOf,wr,packR,Int.reduceLE,Int.reduceLT,Int.reduceEq,Int.cast_ofNat_Int,Int.reduceToNat]
  intro _
  refine ⟨[0],?_⟩
  simp [vW,bw_map,mapAt_map,mapClo_it,mapClo_nil,mapClo_cons,vP,vZ,Tr.get_set]
  try decide
def ir_filter_keys_2:IFn:=⟨[.tmp 2],
  .seq (.reg false [⟨(some 2),.op (.mov (.c (.nilp))),none⟩])
  (.seq (.reg false [⟨(some 3),.op (.mov (.t 0)),none⟩,
    ⟨(some 4),.op (.nilChk (.t 3)),none⟩,
    ⟨(some 5),.op (.fAddr 4 (.t 4)),none⟩,
    ⟨(some 2),.op (.mov (.t 5)),none⟩])
  (.ret))⟩
theorem fkeys2 (hc:chkFn P f ir_filter_keys_2 = true) (p:Pol):Upd P f [.ptr 0 0] [.cells 0 true false (cPol p)] (.ptr 0 4) [.cells 0 true false (cPol p)]:=by
  refine Upd.mk hc (by simp [bnds,bnd]) (by simp) ?_
  simp only [ir_filter_keys_2,cPol,argsT,H0,mkT,mkH,trL,List.length_cons,List.length_nil,Nat.reduceAdd,Nat.zero_add]
  simp only [↓vS,cvF_pc,vP,shb,shv,shvs,she_nil,she_cons,vC,vQ,not_false_eq_true,Nat.reduceEqDiff,↓reduceIte,eq_self,Nat.reduceAdd,Nat.reduceMul,Nat.reduceSub,Nat.reduceLeDiff,Nat.reduceLT,defd,cellsOf,wr,packR,Int.reduceLE,Int.reduceLT,Int.reduceEq,Int.cast_ofNat_Int,Int.reduceToNat]
  intro _
  refine ⟨[0],?_⟩
  simp [vW,bw_map,mapAt_map,mapClo_it,mapClo_nil,mapClo_cons,vP,vZ,Tr.get_set]
  try decide
end Go.Kc
end
section
/- What the keys of filter do to a policy. Condition: the functions' texts are these. -/
namespace Go.Kc
variable {P:Program} {f:Nat}
def ir_filter_list_1 (f_fold_Step:Nat):IFn:=⟨[.tmp 6],
  .seq (.reg false [⟨(some 6),.op (.mov (.c (.nils))),none⟩])
  (.seq (.reg false [⟨(some 10),.op (.load1 (.t 2)),none⟩,
    ⟨(some 11),.op (.mov (.t 0)),none⟩,
    ⟨(some 12),.callV (.t 10) [(.t 11)],none⟩,
    ⟨(some 7),.op (.mov (.t 12)),none⟩])
  (.seq (.reg true [⟨(some 14),.op (.mov (.t 7)),none⟩,
    ⟨(some 15),.op (.nilChk (.t 14)),none⟩,
    ⟨(some 16),.op (.loadN 2 (.t 15)),none⟩,
    ⟨(some 17),.op (.mov (.t 1)),none⟩,
    ⟨(some 18),.op (.load1 (.t 3)),none⟩,
    ⟨(some 19),.callF f_fold_Step [(.t 16),(.t 17),(.t 18)],none⟩,
    ⟨(some 13),.op (.mov (.t 19)),none⟩,
    ⟨(some 20),.op (.ext (.t 13) 0),none⟩,
    ⟨(some 21),.op (.ext (.t 13) 1),none⟩,
    ⟨(some 8),.op (.alloc [.i .u8 0,.nils]),none⟩,
    ⟨none,.op (.store 2 (.t 8) (.t 20)),none⟩,
    ⟨(some 9),.op (.mov (.t 21)),none⟩])
  (.seq (.reg false [⟨(some 22),.op (.mov (.t 7)),none⟩,
    ⟨(some 23),.op (.loadN 2 (.t 8)),none⟩,
    ⟨(some 24),.op (.nilChk (.t 22)),none⟩,
    ⟨none,.op (.store 2 (.t 24) (.t 23)),none⟩])
  (.seq (.reg false [⟨(some 25),.op (.mov (.t 9)),none⟩,
    ⟨(some 6),.op (.mov (.t 25)),none⟩])
  (.ret)))))⟩
theorem flist_1 {g1 g2:Nat} {E:List UInt8 → List (List UInt8) × Int} (hc:chkFn P f (ir_filter_list_1 g2) = true) (h1:∀ p,Upd P g1 [.ptr 0 0] [.cells 0 true false (cPol p)] (.ptr 0 1) [.cells 0 true false (cPol p)]) (h2:cStepO E P g2) (p:Pol) (v:List UInt8) (fl:Bool)
    (hl:p.filter.calls.length ≤ 100000) (hv:v.length ≤ 1000) (hm:0 ≤ p.filter.mode) :
    Upd P f [.ptr 0 0,.s v,.pf [.fn g1 [] []] 0,.pf [.b fl] 0] [.cells 0 true false (cPol p)] (.own 1 (stepM E p.filter v fl).2.length) [.cells 0 true false (cPol { p with filter:=(stepM E p.filter v fl).1 }),.cells 4 true true (rN (stepM E p.filter v fl).2)]:=by
  refine Upd.mk hc (by simp [bnds,bnd,bnd_clo,clo,clos]) (by simp) ?_
  simp only [ir_filter_list_1,cPol,argsT,H0,mkT,mkH,trL,List.length_cons,List.length_nil,Nat.reduceAdd,Nat.zero_add]
  simp only [↓vS,cvF_pc,vP,shb,shv,shvs,she_nil,she_cons,vC,vQ,not_false_eq_true,Nat.reduceEqDiff,↓reduceIte,eq_self,Nat.reduceAdd,Nat.reduceMul,Nat.reduceSub,Nat.reduceLeDiff,Nat.reduceLT,defd,cellsOf,wr,packR,Int.reduceLE,Int.reduceLT,Int.reduceEq,Int.cast_ofNat_Int,Int.reduceToNat]
  refine (h1 p).sc (vs:=[.ptr 0 0]) [0] (Lent.of (by decide) ?_) ?_
  · simp [lent_cons,lent_nil,pushs_cons,pushs_nil,push_mk,shb,shv,shvs,bnds,bnd,rnvs,rnv,gAt,vW,bw_map,mapAt_map,mapClo_it,mapClo_nil,mapClo_cons,vP,vZ,Tr.get_set,cPol,bnd_clo,clo,rnv_clo]
  simp only [backH,List.cons_append,List.nil_append,List.length_cons,List.length_nil,Nat.zero_add,Nat.reduceAdd,List.take_succ_cons,List.take_zero,List.drop_succ_cons,List.drop_zero,List.map_cons,List.map_nil,rnb,rnvs,rnv,gAt,Nat.reduceLT,↓reduceIte,List.getD_cons_zero,List.getD_cons_succ,Nat.reduceSub,puts_cons,puts_nil,pushs_cons,pushs_nil,hput_mk,push_mk,cPol,rnv_clo,clo]
  simp only [↓vS,cvF_pc,vP,shb,shv,shvs,she_nil,she_cons,vC,vQ,not_false_eq_true,Nat.reduceEqDiff,↓reduceIte,eq_self,Nat.reduceAdd,Nat.reduceMul,Nat.reduceSub,Nat.reduceLeDiff,Nat.reduceLT,defd,cellsOf,wr,packR,Int.reduceLE,Int.reduceLT,Int.reduceEq,Int.cast_ofNat_Int,Int.reduceToNat]
  refine VD_pc ?_
  simp only [↓vS,cvF_pc,vP,shb,shv,shvs,she_nil,she_cons,vC,vQ,not_false_eq_true,Nat.reduceEqDiff,↓reduceIte,eq_self,Nat.reduceAdd,Nat.reduceMul,Nat.reduceSub,Nat.reduceLeDiff,Nat.reduceLT,defd,cellsOf,wr,packR,Int.reduceLE,Int.reduceLT,Int.reduceEq,Int.cast_ofNat_Int,Int.reduceToNat]
  refine (h2 p.filter v fl hl hv hm).pc ?_
  simp only [pushs_cons,pushs_nil,push_mk,shb,shv,shvs,she_nil,she_cons,List.map_cons,List.map_nil,up_mk,down_mk,Nat.reduceAdd,Nat.zero_add,cList]
  simp only [↓vS,cvF_pc,vP,shb,shv,shvs,she_nil,she_cons,vC,vQ,not_false_eq_true,Nat.reduceEqDiff,↓reduceIte,eq_self,Nat.reduceAdd,Nat.reduceMul,Nat.reduceSub,Nat.reduceLeDiff,Nat.reduceLT,defd,cellsOf,wr,packR,Int.reduceLE,Int.reduceLT,Int.reduceEq,Int.cast_ofNat_Int,Int.reduceToNat]
  intro _
  refine ⟨[0,1],?_⟩
  simp [vW,bw_map,mapAt_map,mapClo_it,mapClo_nil,mapClo_cons,vP,vZ,Tr.get_set,cPol,nvs_self,rN_clos,rC_clos,rI_clos,shvs_clo rN_clos]
  try decide
theorem flist_2 {g1 g2:Nat} {E:List UInt8 → List (List UInt8) × Int} (hc:chkFn P f (ir_filter_list_1 g2) = true) (h1:∀ p,Upd P g1 [.ptr 0 0] [.cells 0 true false (cPol p)] (.ptr 0 4) [.cells 0 true false (cPol p)]) (h2:cStepO E P g2) (p:Pol) (v:List UInt8) (fl:Bool)
    (hl:p.log.calls.length ≤ 100000) (hv:v.length ≤ 1000) (hm:0 ≤ p.log.mode) :
    Upd P f [.ptr 0 0,.s v,.pf [.fn g1 [] []] 0,.pf [.b fl] 0] [.cells 0 true false (cPol p)] (.own 1 (stepM E p.log v fl).2.length) [.cells 0 true false (cPol { p with log:=(stepM E p.log v fl).1 }),.cells 4 true true (rN (stepM E p.log v fl).2)]:=by
  refine Upd.mk hc (by simp [bnds,bnd,bnd_clo,clo,clos]) (by simp) ?_
  simp only [ir_filter_list_1,cPol,argsT,H0,mkT,mkH,trL,List.length_cons,List.length_nil,Nat.reduceAdd,Nat.zero_add]
  simp only [↓vS,cvF_pc,vP,shb,shv,shvs,she_nil,she_cons,vC,vQ,not_false_eq_true,Nat.reduceEqDiff,↓reduceIte,eq_self,Nat.reduceAdd,Nat.reduceMul,Nat.reduceSub,Nat.reduceLeDiff,Nat.reduceLT,defd,cellsOf,wr,packR,Int.reduceLE,Int.reduceLT,Int.reduceEq,Int.cast_ofNat_Int,Int.reduceToNat]
  refine (h1 p).sc (vs:=[.ptr 0 0]) [0] (Lent.of (by decide) ?_) ?_
  · simp [lent_cons,lent_nil,pushs_cons,pushs_nil,push_mk,shb,shv,shvs,bnds,bnd,rnvs,rnv,gAt,vW,bw_map,mapAt_map,mapClo_it,mapClo_nil,mapClo_cons,vP,vZ,Tr.get_set,cPol,bnd_clo,clo,rnv_clo]
  simp only [backH,List.cons_append,List.nil_append,List.length_cons,List.length_nil,Nat.zero_add,Nat.reduceAdd,List.take_succ_cons,List.take_zero,List.drop_succ_cons,List.drop_zero,List.map_cons,List.map_nil,rnb,rnvs,rnv,gAt,Nat.reduceLT,↓reduceIte,List.getD_cons_zero,List.getD_cons_succ,Nat.reduceSub,puts_cons,puts_nil,pushs_cons,pushs_nil,hput_mk,push_mk,cPol,rnv_clo,clo]
  simp only [↓vS,cvF_pc,vP,shb,shv,shvs,she_nil,she_cons,vC,vQ,not_false_eq_true,Nat.reduceEqDiff,↓reduceIte,eq_self,Nat.reduceAdd,Nat.reduceMul,Nat.reduceSub,Nat.reduceLeDiff,Nat.reduceLT,defd,cellsOf,wr,packR,Int.reduceLE,Int.reduceLT,Int.reduceEq,Int.cast_ofNat_Int,Int.reduceToNat]
  refine VD_pc ?_
  simp only [↓vS,cvF_pc,vP,shb,shv,shvs,she_nil,she_cons,vC,vQ,not_false_eq_true,Nat.reduceEqDiff,↓reduceIte,eq_self,Nat.reduceAdd,Nat.reduceMul,Nat.reduceSub,Nat.reduceLeDiff,Nat.reduceLT,defd,cellsOf,wr,packR,Int.reduceLE,Int.reduceLT,Int.reduceEq,Int.cast_ofNat_Int,Int.reduceToNat]
  refine (h2 p.log v fl hl hv hm).pc ?_
  simp only [pushs_cons,pushs_nil,push_mk,shb,shv,shvs,she_nil,she_cons,List.map_cons,List.map_nil,up_mk,down_mk,Nat.reduceAdd,Nat.zero_add,cList]
  simp only [↓vS,cvF_pc,vP,shb,shv,shvs,she_nil,she_cons,vC,vQ,not_false_eq_true,Nat.reduceEqDiff,↓reduceIte,eq_self,Nat.reduceAdd,Nat.reduceMul,Nat.reduceSub,Nat.reduceLeDiff,Nat.reduceLT,defd,cellsOf,wr,packR,Int.reduceLE,Int.reduceLT,Int.reduceEq,Int.cast_ofNat_Int,Int.reduceToNat]
  intro _
  refine ⟨[0,1],?_⟩
  simp [vW,bw_map,mapAt_map,mapClo_it,mapClo_nil,mapClo_cons,vP,vZ,Tr.get_set,cPol,nvs_self,rN_clos,rC_clos,rI_clos,shvs_clo rN_clos]
  try decide
def ir_filter_keys_3 (f_filter_Errno:Nat):IFn:=⟨[.tmp 4],
  .seq (.reg false [⟨(some 4),.op (.mov (.c (.nils))),none⟩])
  (.seq (.reg false [⟨(some 8),.op (.mov (.t 1)),none⟩,
    ⟨(some 9),.callF f_filter_Errno [(.t 8)],none⟩,
    ⟨(some 7),.op (.mov (.t 9)),none⟩,
    ⟨(some 10),.op (.ext (.t 7) 0),none⟩,
    ⟨(some 11),.op (.ext (.t 7) 1),none⟩,
    ⟨(some 5),.op (.mov (.t 10)),none⟩,
    ⟨(some 6),.op (.mov (.t 11)),none⟩])
  (.seq (.seq (.reg false [⟨(some 12),.op (.mov (.t 6)),none⟩,
    ⟨(some 13),.op (.bin .neq (.t 12) (.c (.i .i64 0))),none⟩])
  (.cond (.t 13) (.seq (.reg false [⟨(some 14),.op (.mov (.t 6)),none⟩,
    ⟨(some 15),.op (.mov (.t 1)),none⟩,
    ⟨(some 16),.op (.mov (.t 1)),none⟩,
    ⟨(some 17),.op (.len true (.t 16)),none⟩,
    ⟨(some 18),.op (.min (.t 17) (.c (.i .i64 60))),none⟩,
    ⟨(some 19),.op (.slcStr (.t 15) none (some (.t 18))),none⟩,
    ⟨(some 20),.op (.build [.s [],.i .i64 0,.i .i64 0,.s []] [(2,1,(.t 14)),(3,1,(.t 19))]),none⟩,
    ⟨(some 21),.op (.buildS 1 [.s [],.i .i64 0,.i .i64 0,.s []] [(0,4,(.t 20))]),none⟩,
    ⟨(some 4),.op (.mov (.t 21)),none⟩])
  (.ret)) (.skip)))
  (.seq (.reg false [⟨(some 22),.op (.mov (.t 0)),none⟩,
    ⟨(some 23),.op (.mov (.t 5)),none⟩,
    ⟨(some 24),.op (.nilChk (.t 22)),none⟩,
    ⟨(some 25),.op (.fAddr 3 (.t 24)),none⟩,
    ⟨none,.op (.store 1 (.t 25) (.t 23)),none⟩])
  (.seq (.reg false [⟨(some 4),.op (.mov (.c (.nils))),none⟩])
  (.ret)))))⟩
theorem fkeys3_ok {g1:Nat} (hc:chkFn P f (ir_filter_keys_3 g1) = true) (h1:cErrF P g1) (p:Pol) (v:List UInt8) (hv:v.length ≤ 1000) (he:(errF v).2 = 0) :
    Upd P f [.ptr 0 0,.s v] [.cells 0 true false (cPol p)] (.own 1 0) [.cells 0 true false (cPol { p with deny:=(errF v).1 }),.cells 4 true true []]:=by
  refine Upd.mk hc (by simp [bnds,bnd]) (by simp) ?_
  simp only [ir_filter_keys_3,cPol,argsT,H0,mkT,mkH,trL,List.length_cons,List.length_nil,Nat.reduceAdd,Nat.zero_add]
  simp only [↓vS,cvF_pc,vP,shb,shv,shvs,she_nil,she_cons,vC,vQ,not_false_eq_true,Nat.reduceEqDiff,↓reduceIte,eq_self,Nat.reduceAdd,Nat.reduceMul,Nat.reduceSub,Nat.reduceLeDiff,Nat.reduceLT,defd,cellsOf,wr,packR,Int.reduceLE,Int.reduceLT,Int.reduceEq,Int.cast_ofNat_Int,Int.reduceToNat]
  refine (h1 v (by omega)).sc ?_
  simp only [↓vS,cvF_pc,vP,shb,shv,shvs,she_nil,she_cons,vC,vQ,not_false_eq_true,Nat.reduceEqDiff,↓reduceIte,eq_self,Nat.reduceAdd,Nat.reduceMul,Nat.reduceSub,Nat.reduceLeDiff,Nat.reduceLT,defd,cellsOf,wr,packR,Int.reduceLE,Int.reduceLT,Int.reduceEq,Int.cast_ofNat_Int,Int.reduceToNat,he]
  intro _
  refine ⟨[0,1],?_⟩
  simp [vW,bw_map,mapAt_map,mapClo_it,mapClo_nil,mapClo_cons,vP,vZ,Tr.get_set,cPol,nvs_self,rN_clos,rC_clos,rI_clos]
  try decide
theorem fkeys3_no {g1:Nat} (hc:chkFn P f (ir_filter_keys_3 g1) = true) (h1:cErrF P g1) (p:Pol) (v:List UInt8) (hv:v.length ≤ 1000) (he:¬ (errF v).2 = 0) :
    Upd P f [.ptr 0 0,.s v] [.cells 0 true false (cPol p)] (.sl 1 0 1 1 false) [.cells 0 true false (cPol p),.cells 0 true false (rN [noteW (errF v).2 v])]:=by
  refine Upd.mk hc (by simp [bnds,bnd]) (by simp) ?_
  simp only [ir_filter_keys_3,cPol,argsT,H0,mkT,mkH,trL,List.length_cons,List.length_nil,Nat.reduceAdd,Nat.zero_add]
  simp only [↓vS,cvF_pc,vP,shb,shv,shvs,she_nil,she_cons,vC,vQ,not_false_eq_true,Nat.reduceEqDiff,↓reduceIte,eq_self,Nat.reduceAdd,Nat.reduceMul,Nat.reduceSub,Nat.reduceLeDiff,Nat.reduceLT,defd,cellsOf,wr,packR,Int.reduceLE,Int.reduceLT,Int.reduceEq,Int.cast_ofNat_Int,Int.reduceToNat]
  refine (h1 v (by omega)).sc ?_
  simp only [↓vS,cvF_pc,vP,shb,shv,shvs,she_nil,she_cons,vC,vQ,not_false_eq_true,Nat.reduceEqDiff,↓reduceIte,eq_self,Nat.reduceAdd,Nat.reduceMul,Nat.reduceSub,Nat.reduceLeDiff,Nat.reduceLT,defd,cellsOf,wr,packR,Int.reduceLE,Int.reduceLT,Int.reduceEq,Int.cast_ofNat_Int,Int.reduceToNat,he]
  by_cases h60:(60:Int) < v.length
  · have h1:60 ≤ v.length:=by omega
    simp only [↓vS,cvF_pc,vP,shb,shv,shvs,she_nil,she_cons,vC,vQ,not_false_eq_true,Nat.reduceEqDiff,↓reduceIte,eq_self,Nat.reduceAdd,Nat.reduceMul,Nat.reduceSub,Nat.reduceLeDiff,Nat.reduceLT,defd,cellsOf,wr,packR,Int.reduceLE,Int.reduceLT,Int.reduceEq,Int.cast_ofNat_Int,Int.reduceToNat,h60,h1,List.drop_zero]
    intro _
    refine ⟨[0,1],?_⟩
    simp [vW,bw_map,mapAt_map,mapClo_it,mapClo_nil,mapClo_cons,vP,vZ,Tr.get_set,nvs_self,rN,cNote,noteW,rI_clos,rC_clos,cPol]
    try decide
  · have h1:v.take 60 = v:=List.take_of_length_le (by omega)
    simp only [↓vS,cvF_pc,vP,shb,shv,shvs,she_nil,she_cons,vC,vQ,not_false_eq_true,Nat.reduceEqDiff,↓reduceIte,eq_self,Nat.reduceAdd,Nat.reduceMul,Nat.reduceSub,Nat.reduceLeDiff,Nat.reduceLT,defd,cellsOf,wr,packR,Int.reduceLE,Int.reduceLT,Int.reduceEq,Int.cast_ofNat_Int,Int.reduceToNat,h60,List.take_length,List.drop_zero]
    intro _
    refine ⟨[0,1],?_⟩
    simp [vW,bw_map,mapAt_map,mapClo_it,mapClo_nil,mapClo_cons,vP,vZ,Tr.get_set,nvs_self,rN,cNote,noteW,rI_clos,rC_clos,cPol,h1]
    try decide
end Go.Kc
end
section
/- What filter.Set answers. Condition: the functions' texts are these. -/
namespace Go.Kc
variable {P:Program} {f:Nat}
def zPolC:List AV:=[.nils,.i .u8 0,.nils,.i .u32 0,.i .u8 0,.nils,.nils,.i .u8 0,.i .u64 0,.b false,.b false,.b false,.b false]
theorem placed_get {a:Asg} {ns:List GNote} {j:Nat} (h:j < ns.length):((ns.take j).map (place a) ++ ns.drop j)[j]? = some ns[j]:=by
  rw [List.getElem?_append_right (by simp; omega)]
  simp [Nat.min_eq_left (Nat.le_of_lt h),h]
theorem placed_set {a:Asg} {ns:List GNote} {j:Nat} (h:j < ns.length) (d:GNote) (hd:d = place a ns[j]):((ns.take j).map (place a) ++ ns.drop j).set j d = (ns.take (j + 1)).map (place a) ++ ns.drop (j + 1):=by
  have hl:((ns.take j).map (place a)).length = j:=by simp; omega
  rw [List.set_append,if_neg (by omega),hl,Nat.sub_self,List.drop_eq_getElem_cons h,List.set_cons_zero,List.take_add_one,List.getElem?_eq_getElem h,hd,List.map_append,List.append_assoc]
  rfl
def ir_filter_Set_c5 (f_filter_copied f_filter_keys:Nat):ICode:=.seq (.seq (.reg false [⟨(some 26),.op (.mov (.t 8)),none⟩,
    ⟨(some 27),.op (.len false (.t 26)),none⟩,
    ⟨(some 28),.op (.mov (.c (.i .i64 0))),none⟩])
  (.blk 0 (.loop (.seq (.reg false [⟨(some 29),.op (.bin .lss (.t 28) (.t 27)),none⟩])
  (.seq (.cond (.t 29) (.skip) (.exit 0))
  (.seq (.blk 1 (.seq (.reg false [⟨(some 30),.op (.mov (.t 28)),none⟩,
    ⟨(some 9),.op (.mov (.t 30)),none⟩])
  (.reg true [⟨(some 31),.op (.mov (.t 8)),none⟩,
    ⟨(some 32),.op (.mov (.t 9)),none⟩,
    ⟨(some 33),.op (.mov (.t 8)),none⟩,
    ⟨(some 34),.op (.mov (.t 9)),none⟩,
    ⟨(some 35),.op (.fAddr 0 (.t 3)),none⟩,
    ⟨(some 36),.op (.load1 (.t 35)),none⟩,
    ⟨(some 37),.op (.fAddr 1 (.t 3)),none⟩,
    ⟨(some 38),.op (.load1 (.t 37)),none⟩,
    ⟨(some 39),.op (.iAddrS 4 (.t 31) (.t 32)),none⟩,
    ⟨(some 40),.op (.fAddr 0 (.t 39)),none⟩,
    ⟨none,.op (.storeD 1 (.t 40) (.t 36) [37]),none⟩,
    ⟨(some 41),.op (.iAddrS 4 (.t 33) (.t 34)),none⟩,
    ⟨(some 42),.op (.fAddr 1 (.t 41)),none⟩,
    ⟨none,.op (.store 1 (.t 42) (.t 38)),none⟩])))
  (.reg false [⟨(some 43),.op (.bin .add (.t 28) (.c (.i .i64 1))),none⟩,
    ⟨(some 28),.op (.mov (.t 43)),none⟩])))))))
  (.seq (.reg false [⟨(some 44),.op (.loadN 13 (.t 2)),none⟩,
    ⟨(some 45),.op (.mov (.t 8)),none⟩,
    ⟨none,.op (.store 13 (.t 4) (.t 44)),none⟩,
    ⟨(some 5),.op (.mov (.t 45)),none⟩])
  (.ret))
def ir_filter_Set_c4 (f_filter_copied f_filter_keys:Nat):ICode:=.seq (.reg false [⟨(some 22),.op (.mov (.t 6)),none⟩,
    ⟨(some 23),.op (.fAddr 4 (.t 3)),none⟩,
    ⟨(some 24),.op (.load1 (.t 23)),none⟩,
    ⟨(some 25),.callV (.t 22) [(.t 2),(.t 24)],none⟩,
    ⟨(some 8),.op (.mov (.t 25)),none⟩])
  (.cut (ir_filter_Set_c5 f_filter_copied f_filter_keys))
def ir_filter_Set (f_filter_copied f_filter_keys:Nat):IFn:=⟨[.cell 4 13 true,.tmp 5],
  .seq (.reg false [⟨(some 2),.op (.box (.t 0)),none⟩,
    ⟨(some 3),.op (.box (.t 1)),none⟩,
    ⟨(some 4),.op (.alloc [.nils,.i .u8 0,.nils,.i .u32 0,.i .u8 0,.nils,.nils,.i .u8 0,.i .u64 0,.b false,.b false,.b false,.b false]),none⟩,
    ⟨(some 5),.op (.mov (.c (.nils))),none⟩])
  (.seq (.reg false [⟨(some 10),.op (.loadN 13 (.t 2)),none⟩,
    ⟨(some 11),.callF f_filter_copied [(.t 10)],none⟩,
    ⟨none,.op (.store 13 (.t 2) (.t 11)),none⟩])
  (.seq (.reg true [⟨(some 13),.callF f_filter_keys [],none⟩,
    ⟨(some 14),.op (.fAddr 3 (.t 3)),none⟩,
    ⟨(some 15),.op (.load1 (.t 14)),none⟩,
    ⟨(some 16),.op (.lookM none true (.nilf) (.t 13) (.t 15)),none⟩,
    ⟨(some 12),.op (.mov (.t 16)),none⟩,
    ⟨(some 17),.op (.ext (.t 12) 0),none⟩,
    ⟨(some 18),.op (.ext (.t 12) 1),none⟩,
    ⟨(some 6),.op (.mov (.t 17)),none⟩,
    ⟨(some 7),.op (.mov (.t 18)),none⟩])
  (.seq (.seq (.reg false [⟨(some 19),.op (.mov (.t 7)),none⟩,
    ⟨(some 20),.op (.un .not (.t 19)),none⟩])
  (.cond (.t 20) (.seq (.reg false [⟨(some 21),.op (.loadN 13 (.t 2)),none⟩,
    ⟨none,.op (.store 13 (.t 4) (.t 21)),none⟩,
    ⟨(some 5),.op (.mov (.c (.nils))),none⟩])
  (.ret)) (.skip)))
  (.cut (ir_filter_Set_c4 f_filter_copied f_filter_keys)))))⟩
theorem fset_tail (g1 g2:Nat) (q:Pol) (a:Asg) (ns:List GNote) (hn:ns.length ≤ 100000) :
    S P 0 (ir_filter_Set_c5 g1 g2) (endX [.cell 4 13 true,.tmp 5] (fun v' h'=>Frz h' v' (.tup [.agg (cPol q),.fz ns.length (rN (ns.map (place a)))])))
      (mkT [(2,.ptr 0 0),(3,.ptr 1 0),(4,.ptr 2 0),(8,.own 3 ns.length)]) (mkH 0 [.cells 0 true false (cPol q),.cells 0 true false (cAsg a),.cells 0 true false zPolC,.cells 4 true true (rN ns)]):=by
  refine V_sound ?_
  simp only [ir_filter_Set_c5,cPol,cAsg,zPolC,argsT,H0,mkT,mkH,trL,List.length_cons,List.length_nil,Nat.reduceAdd,Nat.zero_add]
  simp only [↓vS,cvF_pc,vP,shb,shv,shvs,she_nil,she_cons,vC,vQ,not_false_eq_true,Nat.reduceEqDiff,↓reduceIte,eq_self,Nat.reduceAdd,Nat.reduceMul,Nat.reduceSub,Nat.reduceLeDiff,Nat.reduceLT,defd,cellsOf,wr,packR,Int.reduceLE,Int.reduceLT,Int.reduceEq,Int.cast_ofNat_Int,Int.reduceToNat]
  refine SL.loop (α:=Nat) (fun j=>[(2,.ptr 0 0),(3,.ptr 1 0),(4,.ptr 2 0),(8,.own 3 ns.length),(27,.i .i64 ns.length),(28,.i .i64 j)])
    (fun j=>[.cells 0 true false (cPol q),.cells 0 true false (cAsg a),.cells 0 true false zPolC,.cells 4 true true (rN ((ns.take j).map (place a) ++ ns.drop j))]) (fun j=>j ≤ ns.length) (fun j=>ns.length - j) 0 [0,1,2,3] ?_ ?_ ?_ rfl ?_ ?_
  · simp [vW,bw_map,mapAt_map,mapClo_it,mapClo_nil,mapClo_cons,vP,vZ,Tr.get_set]
  · simp [vW,bw_map,mapAt_map,mapClo_it,mapClo_nil,mapClo_cons,vP,vZ,Tr.get_set,cPol,cAsg,zPolC,nvs_self,rN_clos]
    try decide
  · simp
  · exact Nat.zero_le _
  rintro j hj G ih
  simp only [cPol,cAsg,zPolC,argsT,H0,mkT,mkH,trL,List.length_cons,List.length_nil,Nat.reduceAdd,Nat.zero_add]
  by_cases hlt:j < ns.length
  · have hw:IntKind.wrap .i64 ((j:Int) + 1) = ((j + 1:Nat):Int):=by rw [wrap64 (by omega) (by omega)]; omega
    have hx:=placed_get (a:=a) hlt
    have hset:=placed_set (a:=a) hlt (place a ns[j]) rfl
    have ih2:=ih (j + 1)
    rw [← hset] at ih2
    generalize hL:(ns.take j).map (place a) ++ ns.drop j = L at hx ih2
    have hLl:L.length = ns.length:=by rw [← hL]; simp; omega
    have e0:=rN_set0 hx a.file
    have hx1:(L.set j ⟨a.file,ns[j].line,ns[j].err,ns[j].text⟩)[j]? = some ⟨a.file,ns[j].line,ns[j].err,ns[j].text⟩:=by rw [List.getElem?_set]; simp; omega
    have e1:=rN_set1 hx1 a.line
    rw [List.set_set] at e1
    have hlen:(rN L).length = ns.length * 4:=by rw [rN_len,hLl]
    have hlen1:(rN (L.set j ⟨a.file,ns[j].line,ns[j].err,ns[j].text⟩)).length = ns.length * 4:=by rw [rN_len,List.length_set,hLl]
    have hb0:j * 4 + 1 ≤ ns.length * 4:=by omega
    have hb1:j * 4 + 2 ≤ ns.length * 4:=by omega
    simp only [↓vS,cvF_pc,vP,shb,shv,shvs,she_nil,she_cons,vC,vQ,not_false_eq_true,Nat.reduceEqDiff,↓reduceIte,eq_self,Nat.reduceAdd,Nat.reduceMul,Nat.reduceSub,Nat.reduceLeDiff,Nat.reduceLT,defd,cellsOf,wr,packR,Int.reduceLE,Int.reduceLT,Int.reduceEq,Int.cast_ofNat_Int,Int.reduceToNat,hlt]
    refine VD_pc ?_
    simp (decide:=true) only [↓vS,cvF_pc,vP,shb,shv,shvs,she_nil,she_cons,vC,vQ,not_false_eq_true,Nat.reduceEqDiff,↓reduceIte,eq_self,Nat.reduceAdd,Nat.reduceMul,Nat.reduceSub,Nat.reduceLeDiff,Nat.reduceLT,defd,cellsOf,wr,packR,Int.reduceLE,Int.reduceLT,Int.reduceEq,Int.cast_ofNat_Int,Int.reduceToNat,hlt,hlen,hlen1,hb0,hb1,e0,e1,hw]
    refine ih2 (by omega) (by omega) _ _ (Wk.mk _ _ [0,1,2,3] ?_ ?_ ?_ rfl)
    · simp [vW,bw_map,mapAt_map,mapClo_it,mapClo_nil,mapClo_cons,vP,vZ,Tr.get_set]
    · simp [vW,bw_map,mapAt_map,mapClo_it,mapClo_nil,mapClo_cons,vP,vZ,Tr.get_set,cPol,cAsg,zPolC,nvs_self,rN_clos,place]
      try decide
    · simp
  · have hjl:ns.take j = ns:=List.take_of_length_le (by omega)
    have hdl:ns.drop j = []:=List.drop_of_length_le (by omega)
    rw [hjl,hdl,List.append_nil]
    simp (decide:=true) only [↓vS,cvF_pc,vP,shb,shv,shvs,she_nil,she_cons,vC,vQ,not_false_eq_true,Nat.reduceEqDiff,↓reduceIte,eq_self,Nat.reduceAdd,Nat.reduceMul,Nat.reduceSub,Nat.reduceLeDiff,Nat.reduceLT,defd,cellsOf,wr,packR,Int.reduceLE,Int.reduceLT,Int.reduceEq,Int.cast_ofNat_Int,Int.reduceToNat,hlt]
    simp [vZ,vP,Tr.get_set,cPol,rI_clos,frzs_self,rN_clos,rC_clos]
    intro h0; rw [h0]; rfl
theorem fset_one (g1 g2:Nat) (q:Pol) (a:Asg) (n:GNote) :
    S P 0 (ir_filter_Set_c5 g1 g2) (endX [.cell 4 13 true,.tmp 5] (fun v' h'=>Frz h' v' (.tup [.agg (cPol q),.fz 1 (rN [place a n])])))
      (mkT [(2,.ptr 0 0),(3,.ptr 1 0),(4,.ptr 2 0),(8,.sl 3 0 1 1 false)]) (mkH 0 [.cells 0 true false (cPol q),.cells 0 true false (cAsg a),.cells 0 true false zPolC,.cells 0 true false (rN [n])]):=by
  have hw:IntKind.wrap .i64 (0 + 1) = 1:=by decide
  refine V_sound ?_
  simp only [ir_filter_Set_c5,cPol,cAsg,zPolC,rN_one,argsT,H0,mkT,mkH,trL,List.length_cons,List.length_nil,Nat.reduceAdd,Nat.zero_add]
  simp only [↓vS,cvF_pc,vP,shb,shv,shvs,she_nil,she_cons,vC,vQ,not_false_eq_true,Nat.reduceEqDiff,↓reduceIte,eq_self,Nat.reduceAdd,Nat.reduceMul,Nat.reduceSub,Nat.reduceLeDiff,Nat.reduceLT,defd,cellsOf,wr,packR,Int.reduceLE,Int.reduceLT,Int.reduceEq,Int.cast_ofNat_Int,Int.reduceToNat]
  refine SL_step ?_
  simp (decide:=true) only [↓vS,cvF_pc,vP,shb,shv,shvs,she_nil,she_cons,vC,vQ,not_false_eq_true,Nat.reduceEqDiff,↓reduceIte,eq_self,Nat.reduceAdd,Nat.reduceMul,Nat.reduceSub,Nat.reduceLeDiff,Nat.reduceLT,defd,cellsOf,wr,packR,Int.reduceLE,Int.reduceLT,Int.reduceEq,Int.cast_ofNat_Int,Int.reduceToNat]
  refine VD_pc ?_
  simp (decide:=true) only [↓vS,cvF_pc,vP,shb,shv,shvs,she_nil,she_cons,vC,vQ,not_false_eq_true,Nat.reduceEqDiff,↓reduceIte,eq_self,Nat.reduceAdd,Nat.reduceMul,Nat.reduceSub,Nat.reduceLeDiff,Nat.reduceLT,defd,cellsOf,wr,packR,Int.reduceLE,Int.reduceLT,Int.reduceEq,Int.cast_ofNat_Int,Int.reduceToNat,hw]
  refine SL_step ?_
  simp (decide:=true) only [↓vS,cvF_pc,vP,shb,shv,shvs,she_nil,she_cons,vC,vQ,not_false_eq_true,Nat.reduceEqDiff,↓reduceIte,eq_self,Nat.reduceAdd,Nat.reduceMul,Nat.reduceSub,Nat.reduceLeDiff,Nat.reduceLT,defd,cellsOf,wr,packR,Int.reduceLE,Int.reduceLT,Int.reduceEq,Int.cast_ofNat_Int,Int.reduceToNat]
  simp [vZ,vP,Tr.get_set,cPol,rI_clos,frzs_self,rN_one,rC_clos,place]
  exact Frz.cut 4 rfl (Nat.le_refl _) (by simp [vP,Tr.get_set,vZ])
noncomputable def setF (E:List UInt8 → List (List UInt8) × Int) (p:Pol) (k v:List UInt8):Pol × List GNote :=
  if k = kFilter then ({ p with filter:=(stepM E p.filter v true).1 },(stepM E p.filter v true).2)
  else if k = kLog then ({ p with log:=(stepM E p.log v false).1 },(stepM E p.log v false).2)
  else if k = kErr then (if (errF v).2 = 0 then ({ p with deny:=(errF v).1 },[]) else (p,[noteW (errF v).2 v]))
  else (p,[])
def cSetF (E:List UInt8 → List (List UInt8) × Int) (P:Program) (f:Nat):Prop:=∀ (p:Pol) (a:Asg),PolOk p → 0 ≤ p.filter.mode ∧ 0 ≤ p.log.mode → a.val.length ≤ 1000 →
  Pure P f [.agg (cPol p),.agg (cAsg a)] (.tup [.agg (cPol (setF E p a.key a.val).1),.fz (setF E p a.key a.val).2.length (rN ((setF E p a.key a.val).2.map (place a)))])
theorem setF_pure {g1 g2 l m1 m2 m3 e s0:Nat} {E:List UInt8 → List (List UInt8) × Int} (hc:chkFn P f (ir_filter_Set g1 g2) = true) (h1:cCopied P g1) (h2:Own P g2 [] (.map 0) [.map (keysF l m1 m2 m3)])
    (hl:chkFn P l (ir_filter_list_1 s0) = true) (hs:cStepO E P s0) (hm1:chkFn P m1 ir_filter_keys_1 = true) (hm2:chkFn P m2 ir_filter_keys_2 = true) (hm3:chkFn P m3 (ir_filter_keys_3 e) = true) (he:cErrF P e):cSetF E P f:=by
  intro p a hp hm hv
  have hpc:=hp.c
  have hpl:=hp.l
  refine Pure.mk hc rfl ?_
  generalize hT:AV.tup [.agg (cPol (setF E p a.key a.val).1),.fz (setF E p a.key a.val).2.length (rN ((setF E p a.key a.val).2.map (place a)))] = tgt
  simp only [ir_filter_Set,cPol,cAsg,argsT,H0,mkT,mkH,trL,List.length_cons,List.length_nil,Nat.reduceAdd,Nat.zero_add]
  simp only [↓vS,cvF_pc,vP,shb,shv,shvs,she_nil,she_cons,vC,vQ,not_false_eq_true,Nat.reduceEqDiff,↓reduceIte,eq_self,Nat.reduceAdd,Nat.reduceMul,Nat.reduceSub,Nat.reduceLeDiff,Nat.reduceLT,defd,cellsOf,wr,packR,Int.reduceLE,Int.reduceLT,Int.reduceEq,Int.cast_ofNat_Int,Int.reduceToNat]
  refine (h1 p hp).sc ?_
  simp (decide:=true) only [↓vS,cvF_pc,vP,shb,shv,shvs,she_nil,she_cons,vC,vQ,not_false_eq_true,Nat.reduceEqDiff,↓reduceIte,eq_self,Nat.reduceAdd,Nat.reduceMul,Nat.reduceSub,Nat.reduceLeDiff,Nat.reduceLT,defd,cellsOf,wr,packR,Int.reduceLE,Int.reduceLT,Int.reduceEq,Int.cast_ofNat_Int,Int.reduceToNat,cPol]
  refine VD_pc ?_
  simp only [↓vS,cvF_pc,vP,shb,shv,shvs,she_nil,she_cons,vC,vQ,not_false_eq_true,Nat.reduceEqDiff,↓reduceIte,eq_self,Nat.reduceAdd,Nat.reduceMul,Nat.reduceSub,Nat.reduceLeDiff,Nat.reduceLT,defd,cellsOf,wr,packR,Int.reduceLE,Int.reduceLT,Int.reduceEq,Int.cast_ofNat_Int,Int.reduceToNat]
  refine h2.pc ?_
  simp only [pushs_cons,pushs_nil,push_mk,shb,shv,shvs,she_nil,she_cons,List.map_cons,List.map_nil,up_mk,down_mk,Nat.reduceAdd,Nat.zero_add,keysF]
  simp only [↓vS,cvF_pc,vP,shb,shv,shvs,she_nil,she_cons,vC,vQ,not_false_eq_true,Nat.reduceEqDiff,↓reduceIte,eq_self,Nat.reduceAdd,Nat.reduceMul,Nat.reduceSub,Nat.reduceLeDiff,Nat.reduceLT,defd,cellsOf,wr,packR,Int.reduceLE,Int.reduceLT,Int.reduceEq,Int.cast_ofNat_Int,Int.reduceToNat]
  subst hT
  by_cases n0:a.key = kFilter
  · have hM:setF E p a.key a.val = ({ p with filter:=(stepM E p.filter a.val true).1 },(stepM E p.filter a.val true).2):=by unfold setF; rw [if_pos n0]
    rw [hM]
    have hlen:=stepM_len (E:=E) p.filter a.val true
    simp only [↓vS,cvF_pc,vP,shb,shv,shvs,she_nil,she_cons,vC,vQ,not_false_eq_true,Nat.reduceEqDiff,↓reduceIte,eq_self,Nat.reduceAdd,Nat.reduceMul,Nat.reduceSub,Nat.reduceLeDiff,Nat.reduceLT,defd,cellsOf,wr,packR,Int.reduceLE,Int.reduceLT,Int.reduceEq,Int.cast_ofNat_Int,Int.reduceToNat,n0,if_true]
    refine S.weak (Wk.mk [(2,.ptr 0 0),(3,.ptr 1 0),(4,.ptr 2 0),(6,.fn l [] [.pf [.fn m1 [] []] 0,.pf [.b true] 0])] [.cells 0 true false (cPol p),.cells 0 true false (cAsg a),.cells 0 true false zPolC] [0,1,2] ?_ ?_ ?_ rfl) (V_sound ?_)
    · simp [vW,bw_map,mapAt_map,mapClo_it,mapClo_nil,mapClo_cons,vP,vZ,Tr.get_set,clo,clos]
    · simp [vW,bw_map,mapAt_map,mapClo_it,mapClo_nil,mapClo_cons,vP,vZ,Tr.get_set,cPol,cAsg,zPolC,nvs_self]
      try decide
    · simp
    simp only [ir_filter_Set_c4,cAsg,zPolC,argsT,H0,mkT,mkH,trL,List.length_cons,List.length_nil,Nat.reduceAdd,Nat.zero_add]
    simp only [↓vS,cvF_pc,vP,shb,shv,shvs,she_nil,she_cons,vC,vQ,not_false_eq_true,Nat.reduceEqDiff,↓reduceIte,eq_self,Nat.reduceAdd,Nat.reduceMul,Nat.reduceSub,Nat.reduceLeDiff,Nat.reduceLT,defd,cellsOf,wr,packR,Int.reduceLE,Int.reduceLT,Int.reduceEq,Int.cast_ofNat_Int,Int.reduceToNat]
    refine (flist_1 hl (fkeys1 hm1) hs p a.val true (by omega) hv hm.1).sc (vs:=[.ptr 0 0,.s a.val,.pf [.fn m1 [] []] 0,.pf [.b true] 0]) [0] (Lent.of (by decide) ?_) ?_
    · simp [lent_cons,lent_nil,pushs_cons,pushs_nil,push_mk,shb,shv,shvs,bnds,bnd,rnvs,rnv,gAt,vW,bw_map,mapAt_map,mapClo_it,mapClo_nil,mapClo_cons,vP,vZ,Tr.get_set,cPol,bnd_clo,clo,clos,rnv_clo]
    simp only [backH,List.cons_append,List.nil_append,List.length_cons,List.length_nil,Nat.zero_add,Nat.reduceAdd,List.take_succ_cons,List.take_zero,List.drop_succ_cons,List.drop_zero,List.map_cons,List.map_nil,rnb,rnvs,rnv,gAt,Nat.reduceLT,↓reduceIte,List.getD_cons_zero,List.getD_cons_succ,Nat.reduceSub,puts_cons,puts_nil,pushs_cons,pushs_nil,hput_mk,push_mk,rnvs_clo rN_clos,rnvs_clo (cPol_clos _),rnv_clo,clo]
    simp only [↓vS,cvF_pc,vP,shb,shv,shvs,she_nil,she_cons,vC,vQ,not_false_eq_true,Nat.reduceEqDiff,↓reduceIte,eq_self,Nat.reduceAdd,Nat.reduceMul,Nat.reduceSub,Nat.reduceLeDiff,Nat.reduceLT,defd,cellsOf,wr,packR,Int.reduceLE,Int.reduceLT,Int.reduceEq,Int.cast_ofNat_Int,Int.reduceToNat]
    refine S.weak (Wk.mk _ _ [0,1,2,3] ?_ ?_ ?_ rfl) (fset_tail g1 g2 { p with filter:=(stepM E p.filter a.val true).1 } a (stepM E p.filter a.val true).2 (by omega))
    · simp [vW,bw_map,mapAt_map,mapClo_it,mapClo_nil,mapClo_cons,vP,vZ,Tr.get_set]
    · simp [vW,bw_map,mapAt_map,mapClo_it,mapClo_nil,mapClo_cons,vP,vZ,Tr.get_set,cPol,cAsg,zPolC,nvs_self,rN_clos]
      try decide
    · simp
  by_cases n1:a.key = kLog
  · have hM:setF E p a.key a.val = ({ p with log:=(stepM E p.log a.val false).1 },(stepM E p.log a.val false).2):=by unfold setF; rw [if_neg n0,if_pos n1]
    rw [hM]
    have hlen:=stepM_len (E:=E) p.log a.val false
    simp only [↓vS,cvF_pc,vP,shb,shv,shvs,she_nil,she_cons,vC,vQ,not_false_eq_true,Nat.reduceEqDiff,↓reduceIte,eq_self,Nat.reduceAdd,Nat.reduceMul,Nat.reduceSub,Nat.reduceLeDiff,Nat.reduceLT,defd,cellsOf,wr,packR,Int.reduceLE,Int.reduceLT,Int.reduceEq,Int.cast_ofNat_Int,Int.reduceToNat,n0,n1,if_true]
    refine S.weak (Wk.mk [(2,.ptr 0 0),(3,.ptr 1 0),(4,.ptr 2 0),(6,.fn l [] [.pf [.fn m2 [] []] 0,.pf [.b false] 0])] [.cells 0 true false (cPol p),.cells 0 true false (cAsg a),.cells 0 true false zPolC] [0,1,2] ?_ ?_ ?_ rfl) (V_sound ?_)
    · simp [vW,bw_map,mapAt_map,mapClo_it,mapClo_nil,mapClo_cons,vP,vZ,Tr.get_set,clo,clos]
    · simp [vW,bw_map,mapAt_map,mapClo_it,mapClo_nil,mapClo_cons,vP,vZ,Tr.get_set,cPol,cAsg,zPolC,nvs_self]
      try decide
    · simp
    simp only [ir_filter_Set_c4,cAsg,zPolC,argsT,H0,mkT,mkH,trL,List.length_cons,List.length_nil,Nat.reduceAdd,Nat.zero_add]
    simp only [↓vS,cvF_pc,vP,shb,shv,shvs,she_nil,she_cons,vC,vQ,not_false_eq_true,Nat.reduceEqDiff,↓reduceIte,eq_self,Nat.reduceAdd,Nat.reduceMul,Nat.reduceSub,Nat.reduceLeDiff,Nat.reduceLT,defd,cellsOf,wr,packR,Int.reduceLE,Int.reduceLT,Int.reduceEq,Int.cast_ofNat_Int,Int.reduceToNat]
    refine (flist_2 hl (fkeys2 hm2) hs p a.val false (by omega) hv hm.2).sc (vs:=[.ptr 0 0,.s a.val,.pf [.fn m2 [] []] 0,.pf [.b false] 0]) [0] (Lent.of (by decide) ?_) ?_
    · simp [lent_cons,lent_nil,pushs_cons,pushs_nil,push_mk,shb,shv,shvs,bnds,bnd,rnvs,rnv,gAt,vW,bw_map,mapAt_map,mapClo_it,mapClo_nil,mapClo_cons,vP,vZ,Tr.get_set,cPol,bnd_clo,clo,clos,rnv_clo]
    simp only [backH,List.cons_append,List.nil_append,List.length_cons,List.length_nil,Nat.zero_add,Nat.reduceAdd,List.take_succ_cons,List.take_zero,List.drop_succ_cons,List.drop_zero,List.map_cons,List.map_nil,rnb,rnvs,rnv,gAt,Nat.reduceLT,↓reduceIte,List.getD_cons_zero,List.getD_cons_succ,Nat.reduceSub,puts_cons,puts_nil,pushs_cons,pushs_nil,hput_mk,push_mk,rnvs_clo rN_clos,rnvs_clo (cPol_clos _),rnv_clo,clo]
    simp only [↓vS,cvF_pc,vP,shb,shv,shvs,she_nil,she_cons,vC,vQ,not_false_eq_true,Nat.reduceEqDiff,↓reduceIte,eq_self,Nat.reduceAdd,Nat.reduceMul,Nat.reduceSub,Nat.reduceLeDiff,Nat.reduceLT,defd,cellsOf,wr,packR,Int.reduceLE,Int.reduceLT,Int.reduceEq,Int.cast_ofNat_Int,Int.reduceToNat]
    refine S.weak (Wk.mk _ _ [0,1,2,3] ?_ ?_ ?_ rfl) (fset_tail g1 g2 { p with log:=(stepM E p.log a.val false).1 } a (stepM E p.log a.val false).2 (by omega))
    · simp [vW,bw_map,mapAt_map,mapClo_it,mapClo_nil,mapClo_cons,vP,vZ,Tr.get_set]
    · simp [vW,bw_map,mapAt_map,mapClo_it,mapClo_nil,mapClo_cons,vP,vZ,Tr.get_set,cPol,cAsg,zPolC,nvs_self,rN_clos]
      try decide
    · simp
  by_cases n2:a.key = kErr
  · simp only [↓vS,cvF_pc,vP,shb,shv,shvs,she_nil,she_cons,vC,vQ,not_false_eq_true,Nat.reduceEqDiff,↓reduceIte,eq_self,Nat.reduceAdd,Nat.reduceMul,Nat.reduceSub,Nat.reduceLeDiff,Nat.reduceLT,defd,cellsOf,wr,packR,Int.reduceLE,Int.reduceLT,Int.reduceEq,Int.cast_ofNat_Int,Int.reduceToNat,n0,n1,n2,if_true]
    refine S.weak (Wk.mk [(2,.ptr 0 0),(3,.ptr 1 0),(4,.ptr 2 0),(6,.fn m3 [] [])] [.cells 0 true false (cPol p),.cells 0 true false (cAsg a),.cells 0 true false zPolC] [0,1,2] ?_ ?_ ?_ rfl) (V_sound ?_)
    · simp [vW,bw_map,mapAt_map,mapClo_it,mapClo_nil,mapClo_cons,vP,vZ,Tr.get_set,clo,clos]
    · simp [vW,bw_map,mapAt_map,mapClo_it,mapClo_nil,mapClo_cons,vP,vZ,Tr.get_set,cPol,cAsg,zPolC,nvs_self]
      try decide
    · simp
    simp only [ir_filter_Set_c4,cAsg,zPolC,argsT,H0,mkT,mkH,trL,List.length_cons,List.length_nil,Nat.reduceAdd,Nat.zero_add]
    simp only [↓vS,cvF_pc,vP,shb,shv,shvs,she_nil,she_cons,vC,vQ,not_false_eq_true,Nat.reduceEqDiff,↓reduceIte,eq_self,Nat.reduceAdd,Nat.reduceMul,Nat.reduceSub,Nat.reduceLeDiff,Nat.reduceLT,defd,cellsOf,wr,packR,Int.reduceLE,Int.reduceLT,Int.reduceEq,Int.cast_ofNat_Int,Int.reduceToNat]
    by_cases hz:(errF a.val).2 = 0
    · have hM:setF E p a.key a.val = ({ p with deny:=(errF a.val).1 },[]):=by unfold setF; rw [if_neg n0,if_neg n1,if_pos n2,if_pos hz]
      rw [hM]
      refine (fkeys3_ok hm3 he p a.val hv hz).sc (vs:=[.ptr 0 0,.s a.val]) [0] (Lent.of (by decide) ?_) ?_
      · simp [lent_cons,lent_nil,pushs_cons,pushs_nil,push_mk,shb,shv,shvs,bnds,bnd,rnvs,rnv,gAt,vW,bw_map,mapAt_map,mapClo_it,mapClo_nil,mapClo_cons,vP,vZ,Tr.get_set,cPol,bnd_clo,clo,clos,rnv_clo]
      simp only [backH,List.cons_append,List.nil_append,List.length_cons,List.length_nil,Nat.zero_add,Nat.reduceAdd,List.take_succ_cons,List.take_zero,List.drop_succ_cons,List.drop_zero,List.map_cons,List.map_nil,rnb,rnvs,rnv,gAt,Nat.reduceLT,↓reduceIte,List.getD_cons_zero,List.getD_cons_succ,Nat.reduceSub,puts_cons,puts_nil,pushs_cons,pushs_nil,hput_mk,push_mk,rnvs_clo (cPol_clos _),rnv_clo,clo]
      simp only [↓vS,cvF_pc,vP,shb,shv,shvs,she_nil,she_cons,vC,vQ,not_false_eq_true,Nat.reduceEqDiff,↓reduceIte,eq_self,Nat.reduceAdd,Nat.reduceMul,Nat.reduceSub,Nat.reduceLeDiff,Nat.reduceLT,defd,cellsOf,wr,packR,Int.reduceLE,Int.reduceLT,Int.reduceEq,Int.cast_ofNat_Int,Int.reduceToNat]
      refine S.weak (Wk.mk _ _ [0,1,2,3] ?_ ?_ ?_ rfl) (fset_tail g1 g2 { p with deny:=(errF a.val).1 } a [] (by simp))
      · simp [vW,bw_map,mapAt_map,mapClo_it,mapClo_nil,mapClo_cons,vP,vZ,Tr.get_set]
      · simp [vW,bw_map,mapAt_map,mapClo_it,mapClo_nil,mapClo_cons,vP,vZ,Tr.get_set,cPol,cAsg,zPolC,nvs_self,rN_nil]
        try decide
      · simp
    · have hM:setF E p a.key a.val = (p,[noteW (errF a.val).2 a.val]):=by unfold setF; rw [if_neg n0,if_neg n1,if_pos n2,if_neg hz]
      rw [hM]
      refine (fkeys3_no hm3 he p a.val hv hz).sc (vs:=[.ptr 0 0,.s a.val]) [0] (Lent.of (by decide) ?_) ?_
      · simp [lent_cons,lent_nil,pushs_cons,pushs_nil,push_mk,shb,shv,shvs,bnds,bnd,rnvs,rnv,gAt,vW,bw_map,mapAt_map,mapClo_it,mapClo_nil,mapClo_cons,vP,vZ,Tr.get_set,cPol,bnd_clo,clo,clos,rnv_clo]
      simp only [backH,List.cons_append,List.nil_append,List.length_cons,List.length_nil,Nat.zero_add,Nat.reduceAdd,List.take_succ_cons,List.take_zero,List.drop_succ_cons,List.drop_zero,List.map_cons,List.map_nil,rnb,rnvs,rnv,gAt,Nat.reduceLT,↓reduceIte,List.getD_cons_zero,List.getD_cons_succ,Nat.reduceSub,puts_cons,puts_nil,pushs_cons,pushs_nil,hput_mk,push_mk,rnvs_clo rN_clos,rnvs_clo (cPol_clos _),rnv_clo,clo]
      simp only [↓vS,cvF_pc,vP,shb,shv,shvs,she_nil,she_cons,vC,vQ,not_false_eq_true,Nat.reduceEqDiff,↓reduceIte,eq_self,Nat.reduceAdd,Nat.reduceMul,Nat.reduceSub,Nat.reduceLeDiff,Nat.reduceLT,defd,cellsOf,wr,packR,Int.reduceLE,Int.reduceLT,Int.reduceEq,Int.cast_ofNat_Int,Int.reduceToNat]
      refine S.weak (Wk.mk _ _ [0,1,2,3] ?_ ?_ ?_ rfl) (fset_one g1 g2 p a (noteW (errF a.val).2 a.val))
      · simp [vW,bw_map,mapAt_map,mapClo_it,mapClo_nil,mapClo_cons,vP,vZ,Tr.get_set]
      · simp [vW,bw_map,mapAt_map,mapClo_it,mapClo_nil,mapClo_cons,vP,vZ,Tr.get_set,cPol,cAsg,zPolC,nvs_self,rN_clos]
        try decide
      · simp
  · have hM:setF E p a.key a.val = (p,[]):=by unfold setF; rw [if_neg n0,if_neg n1,if_neg n2]
    rw [hM]
    simp only [↓vS,cvF_pc,vP,shb,shv,shvs,she_nil,she_cons,vC,vQ,not_false_eq_true,Nat.reduceEqDiff,↓reduceIte,eq_self,Nat.reduceAdd,Nat.reduceMul,Nat.reduceSub,Nat.reduceLeDiff,Nat.reduceLT,defd,cellsOf,wr,packR,Int.reduceLE,Int.reduceLT,Int.reduceEq,Int.cast_ofNat_Int,Int.reduceToNat,n0,n1,n2,if_false]
    simp [vZ,vP,Tr.get_set,cPol,rI_clos,frzs_self,rN,rC_clos]
end Go.Kc
end
section
/- FilterOwn: what the law answers. Condition: the functions' texts are these. -/
namespace Go.Kc
variable {P:Program} {f:Nat}
def cSameL (P:Program) (f:Nat):Prop:=∀ l:GList,l.calls.length ≤ 100000 → Pure P f [.agg (cList l),.agg (cList l)] (.b true)
end Go.Kc
end
section
/- FilterLists: what the law answers. Condition: the functions' texts are these. -/
namespace Go.Kc
variable {P:Program} {f:Nat}
section
variable {k:AV → Prop} {q:IntKind} {n:Int}
theorem bin_rem4:binK orc0 .rem (.i q n) (.i q 4) k ↔ evA (.i q (n.tmod 4)) k:=by
  simp only [binK,intBinK,whenK_iff,forceI_eq,decide_true,true_and]
  exact Iff.rfl
end
def asgS (k v:List UInt8):Asg:=⟨[102],3,[83,101,114,118,105,99,101],k,v⟩
def cOf (P:Program) (f:Nat):Prop:=∀ k v,Pure P f [.s k,.s v] (.agg (cAsg (asgS k v)))
def ir_vestibulelaw17_of:IFn:=⟨[.cell 4 5 true],
  .seq (.reg false [⟨(some 4),.op (.alloc [.s [],.i .i64 0,.s [],.s [],.s []]),none⟩])
  (.seq (.reg false [⟨(some 5),.op (.mov (.t 0)),none⟩,
    ⟨(some 6),.op (.mov (.t 1)),none⟩,
    ⟨(some 7),.op (.build [.s [],.i .i64 0,.s [],.s [],.s []] [(0,1,(.c (.s [102]))),(1,1,(.c (.i .i64 3))),(2,1,(.c (.s [83,101,114,118,105,99,101]))),(3,1,(.t 5)),(4,1,(.t 6))]),none⟩,
    ⟨none,.op (.store 5 (.t 4) (.t 7)),none⟩])
  (.ret))⟩
theorem of17 (hc:chkFn P f ir_vestibulelaw17_of = true):cOf P f:=by
  intro k v
  refine Pure.mk hc rfl ?_
  simp only [ir_vestibulelaw17_of,cAsg,asgS,argsT,H0,mkT,mkH,trL,List.length_cons,List.length_nil,Nat.reduceAdd,Nat.zero_add]
  simp only [↓vS,cvF_pc,vP,shb,shv,shvs,she_nil,she_cons,vC,vQ,not_false_eq_true,Nat.reduceEqDiff,↓reduceIte,eq_self,Nat.reduceAdd,Nat.reduceMul,Nat.reduceSub,Nat.reduceLeDiff,Nat.reduceLT,defd,cellsOf,wr,packR,Int.reduceLE,Int.reduceLT,Int.reduceEq,Int.cast_ofNat_Int,Int.reduceToNat]
  simp [vZ]
section
variable (E:List UInt8 → List (List UInt8) × Int)
noncomputable def polS (A B:List (List UInt8)) (D:Int):Pol:=⟨[],(foldM E A true).1,D,(foldM E B false).1,[],0,0,false,false,false,false⟩
end
variable {E:List UInt8 → List (List UInt8) × Int}
theorem foldM_snoc (A:List (List UInt8)) (v:List UInt8) (fl:Bool):foldM E (A ++ [v]) fl = foldS E fl (foldM E A fl) v:=by
  unfold foldM; rw [List.foldl_append]; rfl
theorem setS_0 (A B:List (List UInt8)) (D:Int) (v:List UInt8):setF E (polS E A B D) kFilter v = (polS E (A ++ [v]) B D,(stepM E (foldM E A true).1 v true).2):=by
  unfold setF polS; rw [if_pos rfl,foldM_snoc]; rfl
theorem setS_1 (A B:List (List UInt8)) (D:Int) (v:List UInt8):setF E (polS E A B D) kLog v = (polS E A (B ++ [v]) D,(stepM E (foldM E B false).1 v false).2):=by
  unfold setF polS; rw [if_neg (by decide),if_pos rfl,foldM_snoc]; rfl
theorem setS_2 (A B:List (List UInt8)) (D:Int) (v:List UInt8):setF E (polS E A B D) kErr v = if (errF v).2 = 0 then (polS E A B (errF v).1,[]) else (polS E A B D,[noteW (errF v).2 v]):=by
  unfold setF polS; rw [if_neg (by decide),if_neg (by decide),if_pos rfl]
theorem setS_3 (A B:List (List UInt8)) (D:Int) (v:List UInt8):setF E (polS E A B D) [79,116,104,101,114] v = (polS E A B D,[]):=by
  unfold setF; rw [if_neg (by decide),if_neg (by decide),if_neg (by decide)]
noncomputable def badN (vs:List (List UInt8)) (ps:List Int):Nat → Nat
  | 0=>0
  | j + 1=>badN vs ps j + (if (ps.getD j 0).tmod 4 = 2 ∧ (errF (vs.getD j [])).2 ≠ 0 then 1 else 0)
theorem badN_le (vs:List (List UInt8)) (ps:List Int):∀ j,badN vs ps j ≤ j
  | 0=>Nat.le_refl _
  | j + 1=>by
    have:=badN_le vs ps j
    unfold badN
    split <;> omega
structure LS where
  j:Nat
  A:List (List UInt8)
  B:List (List UInt8)
  D:Int
  ns:List GNote
def LOk (E:List UInt8 → List (List UInt8) × Int) (vs:List (List UInt8)) (ps:List Int) (s:LS):Prop :=
  s.j ≤ vs.length ∧ s.A.length ≤ s.j ∧ s.B.length ≤ s.j ∧ (∀ v ∈ s.A,v.length ≤ 300) ∧ (∀ v ∈ s.B,v.length ≤ 300) ∧ s.ns.length = (foldM E s.A true).2.length + (foldM E s.B false).2.length + badN vs ps s.j
theorem LOk.fold {vs:List (List UInt8)} {ps:List Int} {s:LS} (hE:ExpOk E) (h:LOk E vs ps s) (hn:vs.length ≤ 20):PolOk (polS E s.A s.B s.D) ∧ (0 ≤ (foldM E s.A true).1.mode ∧ 0 ≤ (foldM E s.B false).1.mode) ∧ (foldM E s.A true).2.length ≤ 20000 ∧ (foldM E s.B false).2.length ≤ 20000:=by
  obtain ⟨h1,h2,h3,h4,h5,_⟩:=h
  obtain ⟨a1,a2,a3⟩:=foldS_ok hE true s.A (⟨0,[]⟩,[]) rfl (Int.le_refl 0) (fun v hv=>Nat.le_trans (h4 v hv) (by decide))
  obtain ⟨b1,b2,b3⟩:=foldS_ok hE false s.B (⟨0,[]⟩,[]) rfl (Int.le_refl 0) (fun v hv=>Nat.le_trans (h5 v hv) (by decide))
  have a4:=may_len a1
  have b4:=may_len b1
  simp only [List.length_nil,Nat.zero_add] at a3 b3
  exact ⟨⟨by simp [polS],by simp [polS],Nat.le_trans a4 (by decide),Nat.le_trans b4 (by decide)⟩,⟨a2,b2⟩,Nat.le_trans a3 (by omega),Nat.le_trans b3 (by omega)⟩
theorem LOk.n0 {vs:List (List UInt8)} {ps:List Int} {s:LS} (h:LOk E vs ps s) {v:List UInt8} (hv:v.length ≤ 300) (hj:s.j < vs.length) (hk:(ps.getD s.j 0).tmod 4 = 0) (a:Asg):LOk E vs ps ⟨s.j + 1,s.A ++ [v],s.B,s.D,s.ns ++ (stepM E (foldM E s.A true).1 v true).2.map (place a)⟩:=by
  obtain ⟨h1,h2,h3,h4,h5,h6⟩:=h
  refine ⟨hj,by simp; omega,Nat.le_succ_of_le h3,?_,h5,?_⟩
  · intro w hw
    rcases List.mem_append.1 hw with hw | hw
    · exact h4 w hw
    · rw [List.mem_singleton.1 hw]; exact hv
  · have e:¬ ((ps.getD s.j 0).tmod 4 = 2 ∧ (errF (vs.getD s.j [])).2 ≠ 0):=by rw [hk]; simp
    simp only [badN,if_neg e,foldM_snoc,foldS,List.length_append,List.length_map,h6]
    omega
theorem LOk.n1 {vs:List (List UInt8)} {ps:List Int} {s:LS} (h:LOk E vs ps s) {v:List UInt8} (hv:v.length ≤ 300) (hj:s.j < vs.length) (hk:(ps.getD s.j 0).tmod 4 = 1) (a:Asg):LOk E vs ps ⟨s.j + 1,s.A,s.B ++ [v],s.D,s.ns ++ (stepM E (foldM E s.B false).1 v false).2.map (place a)⟩:=by
  obtain ⟨h1,h2,h3,h4,h5,h6⟩:=h
  refine ⟨hj,Nat.le_succ_of_le h2,by simp; omega,h4,?_,?_⟩
  · intro w hw
    rcases List.mem_append.1 hw with hw | hw
    · exact h5 w hw
    · rw [List.mem_singleton.1 hw]; exact hv
  · have e:¬ ((ps.getD s.j 0).tmod 4 = 2 ∧ (errF (vs.getD s.j [])).2 ≠ 0):=by rw [hk]; simp
    simp only [badN,if_neg e,foldM_snoc,foldS,List.length_append,List.length_map,h6]
    omega
theorem LOk.n2 {vs:List (List UInt8)} {ps:List Int} {s:LS} (h:LOk E vs ps s) {v:List UInt8} (hx:vs.getD s.j [] = v) (hj:s.j < vs.length) (hz:(errF v).2 = 0) (D:Int):LOk E vs ps ⟨s.j + 1,s.A,s.B,D,s.ns⟩:=by
  obtain ⟨h1,h2,h3,h4,h5,h6⟩:=h
  refine ⟨hj,Nat.le_succ_of_le h2,Nat.le_succ_of_le h3,h4,h5,?_⟩
  have e:¬ ((ps.getD s.j 0).tmod 4 = 2 ∧ (errF (vs.getD s.j [])).2 ≠ 0):=by rw [hx,hz]; simp
  simp only [badN,if_neg e,h6]
  omega
theorem LOk.n2e {vs:List (List UInt8)} {ps:List Int} {s:LS} (h:LOk E vs ps s) {v:List UInt8} (hx:vs.getD s.j [] = v) (hj:s.j < vs.length) (hk:(ps.getD s.j 0).tmod 4 = 2) (hz:(errF v).2 ≠ 0) (n:GNote):LOk E vs ps ⟨s.j + 1,s.A,s.B,s.D,s.ns ++ [n]⟩:=by
  obtain ⟨h1,h2,h3,h4,h5,h6⟩:=h
  refine ⟨hj,Nat.le_succ_of_le h2,Nat.le_succ_of_le h3,h4,h5,?_⟩
  have e:((ps.getD s.j 0).tmod 4 = 2 ∧ (errF (vs.getD s.j [])).2 ≠ 0):=⟨hk,by rw [hx]; exact hz⟩
  simp only [badN,if_pos e,List.length_append,List.length_singleton,h6]
  omega
theorem LOk.n3 {vs:List (List UInt8)} {ps:List Int} {s:LS} (h:LOk E vs ps s) (hj:s.j < vs.length) (hk:(ps.getD s.j 0).tmod 4 = 3):LOk E vs ps ⟨s.j + 1,s.A,s.B,s.D,s.ns⟩:=by
  obtain ⟨h1,h2,h3,h4,h5,h6⟩:=h
  refine ⟨hj,Nat.le_succ_of_le h2,Nat.le_succ_of_le h3,h4,h5,?_⟩
  have e:¬ ((ps.getD s.j 0).tmod 4 = 2 ∧ (errF (vs.getD s.j [])).2 ≠ 0):=by rw [hk]; simp
  simp only [badN,if_neg e,h6]
  omega
end Go.Kc
end
section
/- FilterLists: the law's walk. Condition: the functions' texts are these. -/
namespace Go.Kc
variable {P:Program} {f:Nat}
def ir_vestibulelaw17_FilterLists_c41 (f_vestibulelaw17_awake f_vestibulelaw17_of f_filter_Set f_filter_Errno f_fold_Fold f_vestibulelaw17_sameLists:Nat):ICode:=.reg false [⟨(some 41),.op (.mov (.t 10)),none⟩,
    ⟨(some 42),.op (.bin .add (.t 41) (.c (.i .i64 1))),none⟩,
    ⟨(some 10),.op (.mov (.t 42)),none⟩]
def ir_vestibulelaw17_FilterLists_c56 (f_vestibulelaw17_awake f_vestibulelaw17_of f_filter_Set f_filter_Errno f_fold_Fold f_vestibulelaw17_sameLists:Nat):ICode:=.seq (.reg true [⟨(some 56),.op (.loadN 13 (.t 6)),none⟩,
    ⟨(some 57),.op (.mov (.t 5)),none⟩,
    ⟨(some 58),.op (.mov (.t 11)),none⟩,
    ⟨(some 59),.op (.iAddrS 1 (.t 57) (.t 58)),none⟩,
    ⟨(some 60),.op (.load1 (.t 59)),none⟩,
    ⟨(some 61),.op (.mov (.t 0)),none⟩,
    ⟨(some 62),.op (.mov (.t 10)),none⟩,
    ⟨(some 63),.op (.iAddrS 1 (.t 61) (.t 62)),none⟩,
    ⟨(some 64),.op (.load1 (.t 63)),none⟩,
    ⟨(some 65),.callF f_vestibulelaw17_of [(.t 60),(.t 64)],none⟩,
    ⟨(some 66),.callF f_filter_Set [(.t 56),(.t 65)],none⟩,
    ⟨(some 55),.op (.mov (.t 66)),none⟩,
    ⟨(some 67),.op (.ext (.t 55) 0),none⟩,
    ⟨(some 68),.op (.ext (.t 55) 1),none⟩,
    ⟨(some 12),.op (.alloc [.nils,.i .u8 0,.nils,.i .u32 0,.i .u8 0,.nils,.nils,.i .u8 0,.i .u64 0,.b false,.b false,.b false,.b false]),none⟩,
    ⟨none,.op (.store 13 (.t 12) (.t 67)),none⟩,
    ⟨(some 13),.op (.mov (.t 68)),none⟩])
  (.seq (.reg false [⟨(some 69),.op (.loadN 13 (.t 12)),none⟩,
    ⟨none,.op (.store 13 (.t 6) (.t 69)),none⟩])
  (.seq (.reg false [⟨(some 70),.op (.mov (.t 9)),none⟩,
    ⟨(some 71),.op (.mov (.t 13)),none⟩,
    ⟨(some 72),.op (.app 4 48 true (.t 70) (.t 71)),none⟩,
    ⟨(some 9),.op (.mov (.t 72)),none⟩])
  (.seq (.seq (.reg false [⟨(some 73),.op (.mov (.t 11)),none⟩,
    ⟨(some 74),.op (.bin .lss (.t 73) (.c (.i .u8 2))),none⟩])
  (.cond (.t 74) (.reg true [⟨(some 75),.op (.mov (.t 11)),none⟩,
    ⟨(some 76),.op (.mov (.t 11)),none⟩,
    ⟨(some 77),.op (.iAddrA 2 1 (.t 8) (.t 76)),none⟩,
    ⟨(some 78),.op (.load1 (.t 77)),none⟩,
    ⟨(some 79),.op (.mov (.t 0)),none⟩,
    ⟨(some 80),.op (.mov (.t 10)),none⟩,
    ⟨(some 81),.op (.iAddrS 1 (.t 79) (.t 80)),none⟩,
    ⟨(some 82),.op (.load1 (.t 81)),none⟩,
    ⟨(some 83),.op (.buildS 1 [.s []] [(0,1,(.t 82))]),none⟩,
    ⟨(some 84),.op (.app 1 16 true (.t 78) (.t 83)),none⟩,
    ⟨(some 85),.op (.iAddrA 2 1 (.t 8) (.t 75)),none⟩,
    ⟨none,.op (.store 1 (.t 85) (.t 84)),none⟩]) (.skip)))
  (.seq (.reg false [⟨(some 87),.op (.mov (.t 0)),none⟩,
    ⟨(some 88),.op (.mov (.t 10)),none⟩,
    ⟨(some 89),.op (.iAddrS 1 (.t 87) (.t 88)),none⟩,
    ⟨(some 90),.op (.load1 (.t 89)),none⟩,
    ⟨(some 91),.callF f_filter_Errno [(.t 90)],none⟩,
    ⟨(some 86),.op (.mov (.t 91)),none⟩,
    ⟨(some 92),.op (.ext (.t 86) 0),none⟩,
    ⟨(some 93),.op (.ext (.t 86) 1),none⟩,
    ⟨(some 14),.op (.mov (.t 92)),none⟩,
    ⟨(some 15),.op (.mov (.t 93)),none⟩])
  (.seq (.reg false [⟨(some 94),.op (.mov (.t 11)),none⟩,
    ⟨(some 95),.op (.bin .eql (.t 94) (.c (.i .u8 2))),none⟩,
    ⟨(some 96),.op (.mov (.t 95)),none⟩,
    ⟨(some 97),.op (.mov (.t 15)),(some (96,true))⟩,
    ⟨(some 98),.op (.bin .eql (.t 97) (.c (.i .i64 0))),(some (96,true))⟩,
    ⟨(some 99),.op (.pick (.t 96) (.t 98) (.c (.b false))),none⟩])
  (.cond (.t 99) (.reg false [⟨(some 100),.op (.mov (.t 14)),none⟩,
    ⟨(some 7),.op (.mov (.t 100)),none⟩]) (.skip)))))))
def ir_vestibulelaw17_FilterLists_c8 (f_vestibulelaw17_awake f_vestibulelaw17_of f_filter_Set f_filter_Errno f_fold_Fold f_vestibulelaw17_sameLists:Nat):ICode:=.seq (.reg false [⟨(some 102),.op (.iAddrA 2 1 (.t 8) (.c (.i .i64 0))),none⟩,
    ⟨(some 103),.op (.load1 (.t 102)),none⟩,
    ⟨(some 104),.callF f_fold_Fold [(.t 103),(.c (.b true))],none⟩,
    ⟨(some 101),.op (.mov (.t 104)),none⟩,
    ⟨(some 105),.op (.ext (.t 101) 0),none⟩,
    ⟨(some 106),.op (.ext (.t 101) 1),none⟩,
    ⟨(some 16),.op (.alloc [.i .u8 0,.nils]),none⟩,
    ⟨none,.op (.store 2 (.t 16) (.t 105)),none⟩,
    ⟨(some 17),.op (.mov (.t 106)),none⟩])
  (.seq (.reg false [⟨(some 108),.op (.iAddrA 2 1 (.t 8) (.c (.i .i64 1))),none⟩,
    ⟨(some 109),.op (.load1 (.t 108)),none⟩,
    ⟨(some 110),.callF f_fold_Fold [(.t 109),(.c (.b false))],none⟩,
    ⟨(some 107),.op (.mov (.t 110)),none⟩,
    ⟨(some 111),.op (.ext (.t 107) 0),none⟩,
    ⟨(some 112),.op (.ext (.t 107) 1),none⟩,
    ⟨(some 18),.op (.alloc [.i .u8 0,.nils]),none⟩,
    ⟨none,.op (.store 2 (.t 18) (.t 111)),none⟩,
    ⟨(some 19),.op (.mov (.t 112)),none⟩])
  (.seq (.reg false [⟨(some 20),.op (.mov (.c (.i .i64 0))),none⟩])
  (.seq (.seq (.reg false [⟨(some 21),.op (.mov (.c (.i .i64 0))),none⟩])
  (.blk 2 (.loop (.seq (.seq (.reg false [⟨(some 113),.op (.mov (.t 21)),none⟩,
    ⟨(some 114),.op (.mov (.t 0)),none⟩,
    ⟨(some 115),.op (.len false (.t 114)),none⟩,
    ⟨(some 116),.op (.bin .lss (.t 113) (.t 115)),none⟩])
  (.cond (.t 116) (.skip) (.exit 2)))
  (.seq (.blk 3 (.seq (.reg false [⟨(some 120),.op (.mov (.t 0)),none⟩,
    ⟨(some 121),.op (.mov (.t 21)),none⟩,
    ⟨(some 122),.op (.iAddrS 1 (.t 120) (.t 121)),none⟩,
    ⟨(some 123),.op (.load1 (.t 122)),none⟩,
    ⟨(some 124),.callF f_filter_Errno [(.t 123)],none⟩,
    ⟨(some 119),.op (.mov (.t 124)),none⟩,
    ⟨(some 125),.op (.ext (.t 119) 0),none⟩,
    ⟨(some 126),.op (.ext (.t 119) 1),none⟩,
    ⟨(some 22),.op (.mov (.t 125)),none⟩,
    ⟨(some 23),.op (.mov (.t 126)),none⟩])
  (.seq (.reg false [⟨(some 127),.op (.mov (.t 1)),none⟩,
    ⟨(some 128),.op (.mov (.t 21)),none⟩,
    ⟨(some 129),.op (.iAddrS 1 (.t 127) (.t 128)),none⟩,
    ⟨(some 130),.op (.load1 (.t 129)),none⟩,
    ⟨(some 131),.op (.bin .rem (.t 130) (.c (.i .u8 4))),none⟩,
    ⟨(some 132),.op (.bin .eql (.t 131) (.c (.i .u8 2))),none⟩,
    ⟨(some 133),.op (.mov (.t 132)),none⟩,
    ⟨(some 134),.op (.mov (.t 23)),(some (133,true))⟩,
    ⟨(some 135),.op (.bin .neq (.t 134) (.c (.i .i64 0))),(some (133,true))⟩,
    ⟨(some 136),.op (.pick (.t 133) (.t 135) (.c (.b false))),none⟩])
  (.cond (.t 136) (.reg false [⟨(some 137),.op (.mov (.t 20)),none⟩,
    ⟨(some 138),.op (.bin .add (.t 137) (.c (.i .i64 1))),none⟩,
    ⟨(some 20),.op (.mov (.t 138)),none⟩]) (.skip)))))
  (.reg false [⟨(some 117),.op (.mov (.t 21)),none⟩,
    ⟨(some 118),.op (.bin .add (.t 117) (.c (.i .i64 1))),none⟩,
    ⟨(some 21),.op (.mov (.t 118)),none⟩]))))))
  (.seq (.reg false [⟨(some 139),.op (.fAddr 1 (.t 6)),none⟩,
    ⟨(some 140),.op (.loadN 2 (.t 139)),none⟩,
    ⟨(some 141),.op (.loadN 2 (.t 16)),none⟩,
    ⟨(some 142),.callF f_vestibulelaw17_sameLists [(.t 140),(.t 141)],none⟩,
    ⟨(some 143),.op (.mov (.t 142)),none⟩,
    ⟨(some 144),.op (.fAddr 4 (.t 6)),(some (143,true))⟩,
    ⟨(some 145),.op (.loadN 2 (.t 144)),(some (143,true))⟩,
    ⟨(some 146),.op (.loadN 2 (.t 18)),(some (143,true))⟩,
    ⟨(some 147),.callF f_vestibulelaw17_sameLists [(.t 145),(.t 146)],(some (143,true))⟩,
    ⟨(some 148),.op (.pick (.t 143) (.t 147) (.c (.b false))),none⟩,
    ⟨(some 149),.op (.mov (.t 148)),none⟩,
    ⟨(some 150),.op (.fAddr 3 (.t 6)),(some (149,true))⟩,
    ⟨(some 151),.op (.load1 (.t 150)),(some (149,true))⟩,
    ⟨(some 152),.op (.mov (.t 7)),(some (149,true))⟩,
    ⟨(some 153),.op (.bin .eql (.t 151) (.t 152)),(some (149,true))⟩,
    ⟨(some 154),.op (.pick (.t 149) (.t 153) (.c (.b false))),none⟩,
    ⟨(some 155),.op (.mov (.t 154)),none⟩,
    ⟨(some 156),.op (.mov (.t 9)),(some (155,true))⟩,
    ⟨(some 157),.op (.len false (.t 156)),(some (155,true))⟩,
    ⟨(some 158),.op (.mov (.t 17)),(some (155,true))⟩,
    ⟨(some 159),.op (.len false (.t 158)),(some (155,true))⟩,
    ⟨(some 160),.op (.mov (.t 19)),(some (155,true))⟩,
    ⟨(some 161),.op (.len false (.t 160)),(some (155,true))⟩,
    ⟨(some 162),.op (.bin .add (.t 159) (.t 161)),(some (155,true))⟩,
    ⟨(some 163),.op (.mov (.t 20)),(some (155,true))⟩,
    ⟨(some 164),.op (.bin .add (.t 162) (.t 163)),(some (155,true))⟩,
    ⟨(some 165),.op (.bin .eql (.t 157) (.t 164)),(some (155,true))⟩,
    ⟨(some 166),.op (.pick (.t 155) (.t 165) (.c (.b false))),none⟩,
    ⟨(some 167),.op (.mov (.t 166)),none⟩,
    ⟨(some 168),.callF f_vestibulelaw17_awake [],(some (167,true))⟩,
    ⟨(some 169),.op (.pick (.t 167) (.t 168) (.c (.b false))),none⟩,
    ⟨(some 4),.op (.mov (.t 169)),none⟩])
  (.ret)))))
def ir_vestibulelaw17_FilterLists (f_vestibulelaw17_awake f_vestibulelaw17_of f_filter_Set f_filter_Errno f_fold_Fold f_vestibulelaw17_sameLists:Nat):IFn:=⟨[.tmp 4],
  .seq (.reg false [⟨(some 4),.op (.mov (.c (.b false))),none⟩])
  (.seq (.seq (.reg false [⟨(some 24),.op (.mov (.t 0)),none⟩,
    ⟨(some 25),.op (.len false (.t 24)),none⟩,
    ⟨(some 26),.op (.bin .gtr (.t 25) (.c (.i .i64 20))),none⟩,
    ⟨(some 27),.op (.mov (.t 26)),none⟩,
    ⟨(some 28),.op (.mov (.t 1)),(some (27,false))⟩,
    ⟨(some 29),.op (.len false (.t 28)),(some (27,false))⟩,
    ⟨(some 30),.op (.mov (.t 0)),(some (27,false))⟩,
    ⟨(some 31),.op (.len false (.t 30)),(some (27,false))⟩,
    ⟨(some 32),.op (.bin .lss (.t 29) (.t 31)),(some (27,false))⟩,
    ⟨(some 33),.op (.pick (.t 27) (.c (.b true)) (.t 32)),none⟩])
  (.cond (.t 33) (.seq (.reg false [⟨(some 34),.callF f_vestibulelaw17_awake [],none⟩,
    ⟨(some 4),.op (.mov (.t 34)),none⟩])
  (.ret)) (.skip)))
  (.seq (.reg false [⟨(some 35),.op (.buildS 4 [.s []] [(0,1,(.c (.s [83,121,115,116,101,109,67,97,108,108,70,105,108,116,101,114]))),(1,1,(.c (.s [83,121,115,116,101,109,67,97,108,108,76,111,103]))),(2,1,(.c (.s [83,121,115,116,101,109,67,97,108,108,69,114,114,111,114,78,117,109,98,101,114]))),(3,1,(.c (.s [79,116,104,101,114])))]),none⟩,
    ⟨(some 5),.op (.mov (.t 35)),none⟩])
  (.seq (.reg false [⟨(some 36),.op (.build [.nils,.i .u8 0,.nils,.i .u32 0,.i .u8 0,.nils,.nils,.i .u8 0,.i .u64 0,.b false,.b false,.b false,.b false] [(3,1,(.c (.i .u32 2147483648)))]),none⟩,
    ⟨(some 6),.op (.alloc [.nils,.i .u8 0,.nils,.i .u32 0,.i .u8 0,.nils,.nils,.i .u8 0,.i .u64 0,.b false,.b false,.b false,.b false]),none⟩,
    ⟨none,.op (.store 13 (.t 6) (.t 36)),none⟩])
  (.seq (.reg false [⟨(some 7),.op (.mov (.c (.i .u32 2147483648))),none⟩])
  (.seq (.reg false [⟨(some 8),.op (.alloc [.nils,.nils]),none⟩])
  (.seq (.reg false [⟨(some 9),.op (.mov (.c (.nils))),none⟩])
  (.seq (.seq (.reg false [⟨(some 10),.op (.mov (.c (.i .i64 0))),none⟩])
  (.blk 0 (.loop (.seq (.seq (.reg false [⟨(some 37),.op (.mov (.t 10)),none⟩,
    ⟨(some 38),.op (.mov (.t 0)),none⟩,
    ⟨(some 39),.op (.len false (.t 38)),none⟩,
    ⟨(some 40),.op (.bin .lss (.t 37) (.t 39)),none⟩])
  (.cond (.t 40) (.skip) (.exit 0)))
  (.seq (.blk 1 (.seq (.seq (.reg false [⟨(some 43),.op (.mov (.t 0)),none⟩,
    ⟨(some 44),.op (.mov (.t 10)),none⟩,
    ⟨(some 45),.op (.iAddrS 1 (.t 43) (.t 44)),none⟩,
    ⟨(some 46),.op (.load1 (.t 45)),none⟩,
    ⟨(some 47),.op (.len true (.t 46)),none⟩,
    ⟨(some 48),.op (.bin .gtr (.t 47) (.c (.i .i64 300))),none⟩])
  (.cond (.t 48) (.seq (.reg false [⟨(some 49),.callF f_vestibulelaw17_awake [],none⟩,
    ⟨(some 4),.op (.mov (.t 49)),none⟩])
  (.ret)) (.skip)))
  (.seq (.reg false [⟨(some 50),.op (.mov (.t 1)),none⟩,
    ⟨(some 51),.op (.mov (.t 10)),none⟩,
    ⟨(some 52),.op (.iAddrS 1 (.t 50) (.t 51)),none⟩,
    ⟨(some 53),.op (.load1 (.t 52)),none⟩,
    ⟨(some 54),.op (.bin .rem (.t 53) (.c (.i .u8 4))),none⟩,
    ⟨(some 11),.op (.mov (.t 54)),none⟩])
  (.cut (ir_vestibulelaw17_FilterLists_c56 f_vestibulelaw17_awake f_vestibulelaw17_of f_filter_Set f_filter_Errno f_fold_Fold f_vestibulelaw17_sameLists)))))
  (.cut (ir_vestibulelaw17_FilterLists_c41 f_vestibulelaw17_awake f_vestibulelaw17_of f_filter_Set f_filter_Errno f_fold_Fold f_vestibulelaw17_sameLists)))))))
  (.cut (ir_vestibulelaw17_FilterLists_c8 f_vestibulelaw17_awake f_vestibulelaw17_of f_filter_Set f_filter_Errno f_fold_Fold f_vestibulelaw17_sameLists)))))))))⟩
theorem rS_snoc (l:List (List UInt8)) (x:List UInt8):rS l ++ [.s x] = rS (l ++ [x]):=by simp [rS]
def oName:List UInt8:=[79,116,104,101,114]
def keysB:Blk:=.cells 0 true false [.s kFilter,.s kLog,.s kErr,.s oName]
noncomputable def flB (E:List UInt8 → List (List UInt8) × Int) (s:LS):List Blk:=[keysB,.cells 0 true false (cPol (polS E s.A s.B s.D)),.cells 0 true false [.own 3 s.A.length,.own 4 s.B.length],.cells 1 true true (rS s.A),.cells 1 true true (rS s.B),.cells 4 true true (rN s.ns)]
def flT (vs:List (List UInt8)) (ps:List Int) (s:LS) (j:Nat):List (Nat × AV):=[(0,.fz vs.length (rS vs)),(1,.fz ps.length (rI .u8 ps)),(5,.sl 0 0 4 4 false),(6,.ptr 1 0),(7,.i .u32 s.D),(8,.ptr 2 0),(9,.own 5 s.ns.length),(10,.i .i64 j)]
theorem flists_0 {g1 g2 g3 g4 g5 g6:Nat} {E:List UInt8 → List (List UInt8) × Int} (hE:ExpOk E) (h2:cOf P g2) (h3:cSetF E P g3) (h4:cErrF P g4) (vs:List (List UInt8)) (ps:List Int) (s:LS) (hs:LOk E vs ps s) (hn:vs.length ≤ 20) (v:List UInt8) (hj:s.j < vs.length) (hx:(rS vs)[s.j]? = some (.s v)) (hv:v.length ≤ 300) (hk:(ps.getD s.j 0).tmod 4 = 0) (Q:X → Tr AV → Hp → Prop)
    (hQ:∀ s',LOk E vs ps s' → s'.j = s.j + 1 → ∀ t' h',Wk 0 t' h' (mkT (flT vs ps s' s.j)) (mkH 0 (flB E s')) → Q .normal t' h') :
    S P 0 (ir_vestibulelaw17_FilterLists_c56 g1 g2 g3 g4 g5 g6) Q (mkT ((11,.i .u8 0) :: flT vs ps s s.j)) (mkH 0 (flB E s)):=by
  obtain ⟨f1,f2,f3,f4⟩:=hs.fold hE hn
  have hb:=badN_le vs ps s.j
  have hns:=hs.2.2.2.2.2
  have p2:=stepM_len (E:=E) (foldM E s.A true).1 v true
  refine V_sound ?_
  simp only [ir_vestibulelaw17_FilterLists_c56,flT,flB,keysB,cPol,argsT,H0,mkT,mkH,trL,List.length_cons,List.length_nil,Nat.reduceAdd,Nat.zero_add]
  refine VD_pc ?_
  simp only [↓vS,cvF_pc,vP,shb,shv,shvs,she_nil,she_cons,vC,vQ,not_false_eq_true,Nat.reduceEqDiff,↓reduceIte,eq_self,Nat.reduceAdd,Nat.reduceMul,Nat.reduceSub,Nat.reduceLeDiff,Nat.reduceLT,defd,cellsOf,wr,packR,Int.reduceLE,Int.reduceLT,Int.reduceEq,Int.cast_ofNat_Int,Int.reduceToNat,hj,Nat.mul_one,hx]
  refine (h2 kFilter v).pc ?_
  simp only [↓vS,cvF_pc,vP,shb,shv,shvs,she_nil,she_cons,vC,vQ,not_false_eq_true,Nat.reduceEqDiff,↓reduceIte,eq_self,Nat.reduceAdd,Nat.reduceMul,Nat.reduceSub,Nat.reduceLeDiff,Nat.reduceLT,defd,cellsOf,wr,packR,Int.reduceLE,Int.reduceLT,Int.reduceEq,Int.cast_ofNat_Int,Int.reduceToNat]
  refine (h3 (polS E s.A s.B s.D) (asgS kFilter v) f1 f2 (by show v.length ≤ 1000; omega)).pc ?_
  rw [show setF E (polS E s.A s.B s.D) (asgS kFilter v).key (asgS kFilter v).val = _ from setS_0 s.A s.B s.D v]
  have hs':=hs.n0 hv hj hk (asgS kFilter v)
  have hM:(stepM E (foldM E s.A true).1 v true).2.length = ((stepM E (foldM E s.A true).1 v true).2.map (place (asgS kFilter v))).length:=(List.length_map _).symm
  rw [hM] at p2 ⊢
  generalize (stepM E (foldM E s.A true).1 v true).2.map (place (asgS kFilter v)) = M at p2 hs' ⊢
  have hr1:s.ns.length + M.length ≤ roomB:=by simp only [roomB]; omega
  have hr2:(s.ns.length + M.length) * 48 ≤ roomB:=by simp only [roomB]; omega
  have hA:=hs.2.1
  have hr3:s.A.length + 1 ≤ roomB:=by simp only [roomB]; omega
  have hr4:(s.A.length + 1) * 16 ≤ roomB:=by simp only [roomB]; omega
  simp (decide:=true) only [↓vS,cvF_pc,vP,shb,shv,shvs,she_nil,she_cons,vC,vQ,not_false_eq_true,Nat.reduceEqDiff,↓reduceIte,eq_self,Nat.reduceAdd,Nat.reduceMul,Nat.reduceSub,Nat.reduceLeDiff,Nat.reduceLT,defd,cellsOf,wr,packR,Int.reduceLE,Int.reduceLT,Int.reduceEq,Int.cast_ofNat_Int,Int.reduceToNat,cPol,hr1,hr2,hr3,hr4,rN_len,rN_take,List.take_length,rN_app,rN_ok,hj,Nat.mul_one,hx]
  refine VD_pc ?_
  simp (decide:=true) only [↓vS,cvF_pc,vP,shb,shv,shvs,she_nil,she_cons,vC,vQ,not_false_eq_true,Nat.reduceEqDiff,↓reduceIte,eq_self,Nat.reduceAdd,Nat.reduceMul,Nat.reduceSub,Nat.reduceLeDiff,Nat.reduceLT,defd,cellsOf,wr,packR,Int.reduceLE,Int.reduceLT,Int.reduceEq,Int.cast_ofNat_Int,Int.reduceToNat,hr3,hr4,hj,Nat.mul_one,hx,rS_len,rS_take,List.take_length,rS_clos]
  refine (h4 v (by omega)).sc ?_
  simp only [↓vS,cvF_pc,vP,shb,shv,shvs,she_nil,she_cons,vC,vQ,not_false_eq_true,Nat.reduceEqDiff,↓reduceIte,eq_self,Nat.reduceAdd,Nat.reduceMul,Nat.reduceSub,Nat.reduceLeDiff,Nat.reduceLT,defd,cellsOf,wr,packR,Int.reduceLE,Int.reduceLT,Int.reduceEq,Int.cast_ofNat_Int,Int.reduceToNat]
  refine hQ _ hs' rfl _ _ (Wk.mk _ _ [0,1,2,9,4,7] ?_ ?_ ?_ rfl)
  · simp [vW,bw_map,mapAt_map,mapClo_it,mapClo_nil,mapClo_cons,vP,vZ,Tr.get_set,flT,flB,rS_clos,rI_clos]
  · simp [vW,bw_map,mapAt_map,mapClo_it,mapClo_nil,mapClo_cons,vP,vZ,Tr.get_set,flB,keysB,cPol,nvs_self,rN_clos,rS_clos,rN_app,rS_snoc]
  · simp
theorem flists_1 {g1 g2 g3 g4 g5 g6:Nat} {E:List UInt8 → List (List UInt8) × Int} (hE:ExpOk E) (h2:cOf P g2) (h3:cSetF E P g3) (h4:cErrF P g4) (vs:List (List UInt8)) (ps:List Int) (s:LS) (hs:LOk E vs ps s) (hn:vs.length ≤ 20) (v:List UInt8) (hj:s.j < vs.length) (hx:(rS vs)[s.j]? = some (.s v)) (hv:v.length ≤ 300) (hk:(ps.getD s.j 0).tmod 4 = 1) (Q:X → Tr AV → Hp → Prop)
    (hQ:∀ s',LOk E vs ps s' → s'.j = s.j + 1 → ∀ t' h',Wk 0 t' h' (mkT (flT vs ps s' s.j)) (mkH 0 (flB E s')) → Q .normal t' h') :
    S P 0 (ir_vestibulelaw17_FilterLists_c56 g1 g2 g3 g4 g5 g6) Q (mkT ((11,.i .u8 1) :: flT vs ps s s.j)) (mkH 0 (flB E s)):=by
  obtain ⟨f1,f2,f3,f4⟩:=hs.fold hE hn
  have hb:=badN_le vs ps s.j
  have hns:=hs.2.2.2.2.2
  have p2:=stepM_len (E:=E) (foldM E s.B false).1 v false
  refine V_sound ?_
  simp only [ir_vestibulelaw17_FilterLists_c56,flT,flB,keysB,cPol,argsT,H0,mkT,mkH,trL,List.length_cons,List.length_nil,Nat.reduceAdd,Nat.zero_add]
  refine VD_pc ?_
  simp only [↓vS,cvF_pc,vP,shb,shv,shvs,she_nil,she_cons,vC,vQ,not_false_eq_true,Nat.reduceEqDiff,↓reduceIte,eq_self,Nat.reduceAdd,Nat.reduceMul,Nat.reduceSub,Nat.reduceLeDiff,Nat.reduceLT,defd,cellsOf,wr,packR,Int.reduceLE,Int.reduceLT,Int.reduceEq,Int.cast_ofNat_Int,Int.reduceToNat,hj,Nat.mul_one,hx]
  refine (h2 kLog v).pc ?_
  simp only [↓vS,cvF_pc,vP,shb,shv,shvs,she_nil,she_cons,vC,vQ,not_false_eq_true,Nat.reduceEqDiff,↓reduceIte,eq_self,Nat.reduceAdd,Nat.reduceMul,Nat.reduceSub,Nat.reduceLeDiff,Nat.reduceLT,defd,cellsOf,wr,packR,Int.reduceLE,Int.reduceLT,Int.reduceEq,Int.cast_ofNat_Int,Int.reduceToNat]
  refine (h3 (polS E s.A s.B s.D) (asgS kLog v) f1 f2 (by show v.length ≤ 1000; omega)).pc ?_
  rw [show setF E (polS E s.A s.B s.D) (asgS kLog v).key (asgS kLog v).val = _ from setS_1 s.A s.B s.D v]
  have hs':=hs.n1 hv hj hk (asgS kLog v)
  have hM:(stepM E (foldM E s.B false).1 v false).2.length = ((stepM E (foldM E s.B false).1 v false).2.map (place (asgS kLog v))).length:=(List.length_map _).symm
  rw [hM] at p2 ⊢
  generalize (stepM E (foldM E s.B false).1 v false).2.map (place (asgS kLog v)) = M at p2 hs' ⊢
  have hr1:s.ns.length + M.length ≤ roomB:=by simp only [roomB]; omega
  have hr2:(s.ns.length + M.length) * 48 ≤ roomB:=by simp only [roomB]; omega
  have hA:=hs.2.2.1
  have hr3:s.B.length + 1 ≤ roomB:=by simp only [roomB]; omega
  have hr4:(s.B.length + 1) * 16 ≤ roomB:=by simp only [roomB]; omega
  simp (decide:=true) only [↓vS,cvF_pc,vP,shb,shv,shvs,she_nil,she_cons,vC,vQ,not_false_eq_true,Nat.reduceEqDiff,↓reduceIte,eq_self,Nat.reduceAdd,Nat.reduceMul,Nat.reduceSub,Nat.reduceLeDiff,Nat.reduceLT,defd,cellsOf,wr,packR,Int.reduceLE,Int.reduceLT,Int.reduceEq,Int.cast_ofNat_Int,Int.reduceToNat,cPol,hr1,hr2,hr3,hr4,rN_len,rN_take,List.take_length,rN_app,rN_ok,hj,Nat.mul_one,hx]
  refine VD_pc ?_
  simp (decide:=true) only [↓vS,cvF_pc,vP,shb,shv,shvs,she_nil,she_cons,vC,vQ,not_false_eq_true,Nat.reduceEqDiff,↓reduceIte,eq_self,Nat.reduceAdd,Nat.reduceMul,Nat.reduceSub,Nat.reduceLeDiff,Nat.reduceLT,defd,cellsOf,wr,packR,Int.reduceLE,Int.reduceLT,Int.reduceEq,Int.cast_ofNat_Int,Int.reduceToNat,hr3,hr4,hj,Nat.mul_one,hx,rS_len,rS_take,List.take_length,rS_clos]
  refine (h4 v (by omega)).sc ?_
  simp only [↓vS,cvF_pc,vP,shb,shv,shvs,she_nil,she_cons,vC,vQ,not_false_eq_true,Nat.reduceEqDiff,↓reduceIte,eq_self,Nat.reduceAdd,Nat.reduceMul,Nat.reduceSub,Nat.reduceLeDiff,Nat.reduceLT,defd,cellsOf,wr,packR,Int.reduceLE,Int.reduceLT,Int.reduceEq,Int.cast_ofNat_Int,Int.reduceToNat]
  refine hQ _ hs' rfl _ _ (Wk.mk _ _ [0,1,2,3,9,7] ?_ ?_ ?_ rfl)
  · simp [vW,bw_map,mapAt_map,mapClo_it,mapClo_nil,mapClo_cons,vP,vZ,Tr.get_set,flT,flB,rS_clos,rI_clos]
  · simp [vW,bw_map,mapAt_map,mapClo_it,mapClo_nil,mapClo_cons,vP,vZ,Tr.get_set,flB,keysB,cPol,nvs_self,rN_clos,rS_clos,rN_app,rS_snoc]
  · simp
theorem flists_2 {g1 g2 g3 g4 g5 g6:Nat} {E:List UInt8 → List (List UInt8) × Int} (hE:ExpOk E) (h2:cOf P g2) (h3:cSetF E P g3) (h4:cErrF P g4) (vs:List (List UInt8)) (ps:List Int) (s:LS) (hs:LOk E vs ps s) (hn:vs.length ≤ 20) (v:List UInt8) (hj:s.j < vs.length) (hx:(rS vs)[s.j]? = some (.s v)) (hv:v.length ≤ 300) (hd:vs.getD s.j [] = v) (hk:(ps.getD s.j 0).tmod 4 = 2) (hz:(errF v).2 = 0) (Q:X → Tr AV → Hp → Prop)
    (hQ:∀ s',LOk E vs ps s' → s'.j = s.j + 1 → ∀ t' h',Wk 0 t' h' (mkT (flT vs ps s' s.j)) (mkH 0 (flB E s')) → Q .normal t' h') :
    S P 0 (ir_vestibulelaw17_FilterLists_c56 g1 g2 g3 g4 g5 g6) Q (mkT ((11,.i .u8 2) :: flT vs ps s s.j)) (mkH 0 (flB E s)):=by
  obtain ⟨f1,f2,f3,f4⟩:=hs.fold hE hn
  have hb:=badN_le vs ps s.j
  have hns:=hs.2.2.2.2.2
  refine V_sound ?_
  simp only [ir_vestibulelaw17_FilterLists_c56,flT,flB,keysB,cPol,argsT,H0,mkT,mkH,trL,List.length_cons,List.length_nil,Nat.reduceAdd,Nat.zero_add]
  refine VD_pc ?_
  simp only [↓vS,cvF_pc,vP,shb,shv,shvs,she_nil,she_cons,vC,vQ,not_false_eq_true,Nat.reduceEqDiff,↓reduceIte,eq_self,Nat.reduceAdd,Nat.reduceMul,Nat.reduceSub,Nat.reduceLeDiff,Nat.reduceLT,defd,cellsOf,wr,packR,Int.reduceLE,Int.reduceLT,Int.reduceEq,Int.cast_ofNat_Int,Int.reduceToNat,hj,Nat.mul_one,hx]
  refine (h2 kErr v).pc ?_
  simp only [↓vS,cvF_pc,vP,shb,shv,shvs,she_nil,she_cons,vC,vQ,not_false_eq_true,Nat.reduceEqDiff,↓reduceIte,eq_self,Nat.reduceAdd,Nat.reduceMul,Nat.reduceSub,Nat.reduceLeDiff,Nat.reduceLT,defd,cellsOf,wr,packR,Int.reduceLE,Int.reduceLT,Int.reduceEq,Int.cast_ofNat_Int,Int.reduceToNat]
  refine (h3 (polS E s.A s.B s.D) (asgS kErr v) f1 f2 (by show v.length ≤ 1000; omega)).pc ?_
  obtain ⟨N,hN⟩:∃ N:List GNote,N = []:=⟨_,rfl⟩
  rw [show setF E (polS E s.A s.B s.D) (asgS kErr v).key (asgS kErr v).val = (polS E s.A s.B (errF v).1,N) from by rw [hN]; exact (setS_2 s.A s.B s.D v).trans (if_pos hz)]
  have hs':LOk E vs ps ⟨s.j + 1,s.A,s.B,(errF v).1,s.ns ++ N.map (place (asgS kErr v))⟩:=by rw [hN]; rw [List.map_nil,List.append_nil]; exact hs.n2 hd hj hz _
  have hM1:(N.map (place (asgS kErr v))).length ≤ 1:=by rw [hN]; simp
  have hM:N.length = (N.map (place (asgS kErr v))).length:=(List.length_map _).symm
  rw [hM]
  generalize N.map (place (asgS kErr v)) = M at hM1 hs' ⊢
  have hr1:s.ns.length + M.length ≤ roomB:=by simp only [roomB]; omega
  have hr2:(s.ns.length + M.length) * 48 ≤ roomB:=by simp only [roomB]; omega
  simp (decide:=true) only [↓vS,cvF_pc,vP,shb,shv,shvs,she_nil,she_cons,vC,vQ,not_false_eq_true,Nat.reduceEqDiff,↓reduceIte,eq_self,Nat.reduceAdd,Nat.reduceMul,Nat.reduceSub,Nat.reduceLeDiff,Nat.reduceLT,defd,cellsOf,wr,packR,Int.reduceLE,Int.reduceLT,Int.reduceEq,Int.cast_ofNat_Int,Int.reduceToNat,cPol,hr1,hr2,rN_len,rN_take,List.take_length,rN_app,rN_ok,hj,Nat.mul_one,hx]
  refine (h4 v (by omega)).sc ?_
  simp (decide:=true) only [↓vS,cvF_pc,vP,shb,shv,shvs,she_nil,she_cons,vC,vQ,not_false_eq_true,Nat.reduceEqDiff,↓reduceIte,eq_self,Nat.reduceAdd,Nat.reduceMul,Nat.reduceSub,Nat.reduceLeDiff,Nat.reduceLT,defd,cellsOf,wr,packR,Int.reduceLE,Int.reduceLT,Int.reduceEq,Int.cast_ofNat_Int,Int.reduceToNat,hz]
  refine hQ _ hs' rfl _ _ (Wk.mk _ _ [0,1,2,3,4,7] ?_ ?_ ?_ rfl)
  · simp [vW,bw_map,mapAt_map,mapClo_it,mapClo_nil,mapClo_cons,vP,vZ,Tr.get_set,flT,flB,rS_clos,rI_clos]
  · simp [vW,bw_map,mapAt_map,mapClo_it,mapClo_nil,mapClo_cons,vP,vZ,Tr.get_set,flB,keysB,cPol,nvs_self,rN_clos,rS_clos,rN_app]
  · simp
theorem flists_2e {g1 g2 g3 g4 g5 g6:Nat} {E:List UInt8 → List (List UInt8) × Int} (hE:ExpOk E) (h2:cOf P g2) (h3:cSetF E P g3) (h4:cErrF P g4) (vs:List (List UInt8)) (ps:List Int) (s:LS) (hs:LOk E vs ps s) (hn:vs.length ≤ 20) (v:List UInt8) (hj:s.j < vs.length) (hx:(rS vs)[s.j]? = some (.s v)) (hv:v.length ≤ 300) (hd:vs.getD s.j [] = v) (hk:(ps.getD s.j 0).tmod 4 = 2) (hz:¬ (errF v).2 = 0) (Q:X → Tr AV → Hp → Prop)
    (hQ:∀ s',LOk E vs ps s' → s'.j = s.j + 1 → ∀ t' h',Wk 0 t' h' (mkT (flT vs ps s' s.j)) (mkH 0 (flB E s')) → Q .normal t' h') :
    S P 0 (ir_vestibulelaw17_FilterLists_c56 g1 g2 g3 g4 g5 g6) Q (mkT ((11,.i .u8 2) :: flT vs ps s s.j)) (mkH 0 (flB E s)):=by
  obtain ⟨f1,f2,f3,f4⟩:=hs.fold hE hn
  have hb:=badN_le vs ps s.j
  have hns:=hs.2.2.2.2.2
  refine V_sound ?_
  simp only [ir_vestibulelaw17_FilterLists_c56,flT,flB,keysB,cPol,argsT,H0,mkT,mkH,trL,List.length_cons,List.length_nil,Nat.reduceAdd,Nat.zero_add]
  refine VD_pc ?_
  simp only [↓vS,cvF_pc,vP,shb,shv,shvs,she_nil,she_cons,vC,vQ,not_false_eq_true,Nat.reduceEqDiff,↓reduceIte,eq_self,Nat.reduceAdd,Nat.reduceMul,Nat.reduceSub,Nat.reduceLeDiff,Nat.reduceLT,defd,cellsOf,wr,packR,Int.reduceLE,Int.reduceLT,Int.reduceEq,Int.cast_ofNat_Int,Int.reduceToNat,hj,Nat.mul_one,hx]
  refine (h2 kErr v).pc ?_
  simp only [↓vS,cvF_pc,vP,shb,shv,shvs,she_nil,she_cons,vC,vQ,not_false_eq_true,Nat.reduceEqDiff,↓reduceIte,eq_self,Nat.reduceAdd,Nat.reduceMul,Nat.reduceSub,Nat.reduceLeDiff,Nat.reduceLT,defd,cellsOf,wr,packR,Int.reduceLE,Int.reduceLT,Int.reduceEq,Int.cast_ofNat_Int,Int.reduceToNat]
  refine (h3 (polS E s.A s.B s.D) (asgS kErr v) f1 f2 (by show v.length ≤ 1000; omega)).pc ?_
  obtain ⟨N,hN⟩:∃ N:List GNote,N = [noteW (errF v).2 v]:=⟨_,rfl⟩
  rw [show setF E (polS E s.A s.B s.D) (asgS kErr v).key (asgS kErr v).val = (polS E s.A s.B s.D,N) from by rw [hN]; exact (setS_2 s.A s.B s.D v).trans (if_neg hz)]
  have hs':LOk E vs ps ⟨s.j + 1,s.A,s.B,s.D,s.ns ++ N.map (place (asgS kErr v))⟩:=by rw [hN]; exact hs.n2e hd hj hk hz _
  have hM1:(N.map (place (asgS kErr v))).length ≤ 1:=by rw [hN]; simp
  have hM:N.length = (N.map (place (asgS kErr v))).length:=(List.length_map _).symm
  rw [hM]
  generalize N.map (place (asgS kErr v)) = M at hM1 hs' ⊢
  have hr1:s.ns.length + M.length ≤ roomB:=by simp only [roomB]; omega
  have hr2:(s.ns.length + M.length) * 48 ≤ roomB:=by simp only [roomB]; omega
  simp (decide:=true) only [↓vS,cvF_pc,vP,shb,shv,shvs,she_nil,she_cons,vC,vQ,not_false_eq_true,Nat.reduceEqDiff,↓reduceIte,eq_self,Nat.reduceAdd,Nat.reduceMul,Nat.reduceSub,Nat.reduceLeDiff,Nat.reduceLT,defd,cellsOf,wr,packR,Int.reduceLE,Int.reduceLT,Int.reduceEq,Int.cast_ofNat_Int,Int.reduceToNat,cPol,hr1,hr2,rN_len,rN_take,List.take_length,rN_app,rN_ok,hj,Nat.mul_one,hx]
  refine (h4 v (by omega)).sc ?_
  simp (decide:=true) only [↓vS,cvF_pc,vP,shb,shv,shvs,she_nil,she_cons,vC,vQ,not_false_eq_true,Nat.reduceEqDiff,↓reduceIte,eq_self,Nat.reduceAdd,Nat.reduceMul,Nat.reduceSub,Nat.reduceLeDiff,Nat.reduceLT,defd,cellsOf,wr,packR,Int.reduceLE,Int.reduceLT,Int.reduceEq,Int.cast_ofNat_Int,Int.reduceToNat,hz]
  refine hQ _ hs' rfl _ _ (Wk.mk _ _ [0,1,2,3,4,7] ?_ ?_ ?_ rfl)
  · simp [vW,bw_map,mapAt_map,mapClo_it,mapClo_nil,mapClo_cons,vP,vZ,Tr.get_set,flT,flB,rS_clos,rI_clos]
  · simp [vW,bw_map,mapAt_map,mapClo_it,mapClo_nil,mapClo_cons,vP,vZ,Tr.get_set,flB,keysB,cPol,nvs_self,rN_clos,rS_clos,rN_app]
  · simp
theorem flists_3 {g1 g2 g3 g4 g5 g6:Nat} {E:List UInt8 → List (List UInt8) × Int} (hE:ExpOk E) (h2:cOf P g2) (h3:cSetF E P g3) (h4:cErrF P g4) (vs:List (List UInt8)) (ps:List Int) (s:LS) (hs:LOk E vs ps s) (hn:vs.length ≤ 20) (v:List UInt8) (hj:s.j < vs.length) (hx:(rS vs)[s.j]? = some (.s v)) (hv:v.length ≤ 300) (hd:vs.getD s.j [] = v) (hk:(ps.getD s.j 0).tmod 4 = 3) (Q:X → Tr AV → Hp → Prop)
    (hQ:∀ s',LOk E vs ps s' → s'.j = s.j + 1 → ∀ t' h',Wk 0 t' h' (mkT (flT vs ps s' s.j)) (mkH 0 (flB E s')) → Q .normal t' h') :
    S P 0 (ir_vestibulelaw17_FilterLists_c56 g1 g2 g3 g4 g5 g6) Q (mkT ((11,.i .u8 3) :: flT vs ps s s.j)) (mkH 0 (flB E s)):=by
  obtain ⟨f1,f2,f3,f4⟩:=hs.fold hE hn
  have hb:=badN_le vs ps s.j
  have hns:=hs.2.2.2.2.2
  refine V_sound ?_
  simp only [ir_vestibulelaw17_FilterLists_c56,flT,flB,keysB,cPol,argsT,H0,mkT,mkH,trL,List.length_cons,List.length_nil,Nat.reduceAdd,Nat.zero_add]
  refine VD_pc ?_
  simp only [↓vS,cvF_pc,vP,shb,shv,shvs,she_nil,she_cons,vC,vQ,not_false_eq_true,Nat.reduceEqDiff,↓reduceIte,eq_self,Nat.reduceAdd,Nat.reduceMul,Nat.reduceSub,Nat.reduceLeDiff,Nat.reduceLT,defd,cellsOf,wr,packR,Int.reduceLE,Int.reduceLT,Int.reduceEq,Int.cast_ofNat_Int,Int.reduceToNat,hj,Nat.mul_one,hx]
  refine (h2 oName v).pc ?_
  simp only [↓vS,cvF_pc,vP,shb,shv,shvs,she_nil,she_cons,vC,vQ,not_false_eq_true,Nat.reduceEqDiff,↓reduceIte,eq_self,Nat.reduceAdd,Nat.reduceMul,Nat.reduceSub,Nat.reduceLeDiff,Nat.reduceLT,defd,cellsOf,wr,packR,Int.reduceLE,Int.reduceLT,Int.reduceEq,Int.cast_ofNat_Int,Int.reduceToNat]
  refine (h3 (polS E s.A s.B s.D) (asgS oName v) f1 f2 (by show v.length ≤ 1000; omega)).pc ?_
  obtain ⟨N,hN⟩:∃ N:List GNote,N = []:=⟨_,rfl⟩
  rw [show setF E (polS E s.A s.B s.D) (asgS oName v).key (asgS oName v).val = (polS E s.A s.B s.D,N) from by rw [hN]; exact setS_3 s.A s.B s.D v]
  have hs':LOk E vs ps ⟨s.j + 1,s.A,s.B,s.D,s.ns ++ N.map (place (asgS oName v))⟩:=by rw [hN]; rw [List.map_nil,List.append_nil]; exact hs.n3 hj hk
  have hM1:(N.map (place (asgS oName v))).length ≤ 1:=by rw [hN]; simp
  have hM:N.length = (N.map (place (asgS oName v))).length:=(List.length_map _).symm
  rw [hM]
  generalize N.map (place (asgS oName v)) = M at hM1 hs' ⊢
  have hr1:s.ns.length + M.length ≤ roomB:=by simp only [roomB]; omega
  have hr2:(s.ns.length + M.length) * 48 ≤ roomB:=by simp only [roomB]; omega
  simp (decide:=true) only [↓vS,cvF_pc,vP,shb,shv,shvs,she_nil,she_cons,vC,vQ,not_false_eq_true,Nat.reduceEqDiff,↓reduceIte,eq_self,Nat.reduceAdd,Nat.reduceMul,Nat.reduceSub,Nat.reduceLeDiff,Nat.reduceLT,defd,cellsOf,wr,packR,Int.reduceLE,Int.reduceLT,Int.reduceEq,Int.cast_ofNat_Int,Int.reduceToNat,cPol,hr1,hr2,rN_len,rN_take,List.take_length,rN_app,rN_ok,hj,Nat.mul_one,hx]
  refine (h4 v (by omega)).sc ?_
  simp (decide:=true) only [↓vS,cvF_pc,vP,shb,shv,shvs,she_nil,she_cons,vC,vQ,not_false_eq_true,Nat.reduceEqDiff,↓reduceIte,eq_self,Nat.reduceAdd,Nat.reduceMul,Nat.reduceSub,Nat.reduceLeDiff,Nat.reduceLT,defd,cellsOf,wr,packR,Int.reduceLE,Int.reduceLT,Int.reduceEq,Int.cast_ofNat_Int,Int.reduceToNat]
  refine hQ _ hs' rfl _ _ (Wk.mk _ _ [0,1,2,3,4,7] ?_ ?_ ?_ rfl)
  · simp [vW,bw_map,mapAt_map,mapClo_it,mapClo_nil,mapClo_cons,vP,vZ,Tr.get_set,flT,flB,rS_clos,rI_clos]
  · simp [vW,bw_map,mapAt_map,mapClo_it,mapClo_nil,mapClo_cons,vP,vZ,Tr.get_set,flB,keysB,cPol,nvs_self,rN_clos,rS_clos,rN_app]
  · simp
end Go.Kc
end
section
/- FilterLists: the law's end. Condition: the functions' texts are these. -/
namespace Go.Kc
variable {P:Program} {f:Nat}
theorem flists_end {g1 g2 g3 g4 g5 g6:Nat} {E:List UInt8 → List (List UInt8) × Int} (hE:ExpOk E) (h1:Pure P g1 [] (.b true)) (h4:cErrF P g4) (h5:cFold E P g5) (h6:cSameL P g6) (vs:List (List UInt8)) (ps:List Int) (s:LS) (hs:LOk E vs ps s) (hn:vs.length ≤ 20) (hp:vs.length ≤ ps.length) (hv:∀ v ∈ vs,v.length ≤ 300) (hj:s.j = vs.length) :
    S P 0 (ir_vestibulelaw17_FilterLists_c8 g1 g2 g3 g4 g5 g6) (endX [.tmp 4] fun v' h'=>Frz h' v' (.b true)) (mkT (flT vs ps s s.j)) (mkH 0 (flB E s)):=by
  obtain ⟨f1,f2,f3,f4⟩:=hs.fold hE hn
  have f5:=f1.c
  have f6:=f1.l
  simp only [polS] at f5 f6
  obtain ⟨k1,k2,k3,k4,k5,k6⟩:=hs
  refine V_sound ?_
  simp only [ir_vestibulelaw17_FilterLists_c8,flT,flB,keysB,cPol,polS,argsT,H0,mkT,mkH,trL,List.length_cons,List.length_nil,Nat.reduceAdd,Nat.zero_add]
  simp only [↓vS,cvF_pc,vP,shb,shv,shvs,she_nil,she_cons,vC,vQ,not_false_eq_true,Nat.reduceEqDiff,↓reduceIte,eq_self,Nat.reduceAdd,Nat.reduceMul,Nat.reduceSub,Nat.reduceLeDiff,Nat.reduceLT,defd,cellsOf,wr,packR,Int.reduceLE,Int.reduceLT,Int.reduceEq,Int.cast_ofNat_Int,Int.reduceToNat]
  refine (h5 s.A true (by omega) (fun v hv=>Nat.le_trans (k4 v hv) (by decide))).give [(3,.cells 1 true true (rS s.A))] (by simp [Tr.get_set]) rfl ?_ ?_
  · simp [vZ,vP,Tr.get_set,frzs_self rS_clos,trP]
    intro h0; rw [h0]; rfl
  simp only [kill_cons,kill_nil,hput_mk]
  simp only [↓vS,cvF_pc,vP,shb,shv,shvs,she_nil,she_cons,vC,vQ,not_false_eq_true,Nat.reduceEqDiff,↓reduceIte,eq_self,Nat.reduceAdd,Nat.reduceMul,Nat.reduceSub,Nat.reduceLeDiff,Nat.reduceLT,defd,cellsOf,wr,packR,Int.reduceLE,Int.reduceLT,Int.reduceEq,Int.cast_ofNat_Int,Int.reduceToNat,cList]
  refine (h5 s.B false (by omega) (fun v hv=>Nat.le_trans (k5 v hv) (by decide))).give [(4,.cells 1 true true (rS s.B))] (by simp [Tr.get_set]) rfl ?_ ?_
  · simp [vZ,vP,Tr.get_set,frzs_self rS_clos,trP]
    intro h0; rw [h0]; rfl
  simp only [kill_cons,kill_nil,hput_mk]
  generalize foldM E s.A true = RA at f2 f3 f5 k6 ⊢
  generalize foldM E s.B false = RB at f2 f4 f6 k6 ⊢
  simp only [↓vS,cvF_pc,vP,shb,shv,shvs,she_nil,she_cons,vC,vQ,not_false_eq_true,Nat.reduceEqDiff,↓reduceIte,eq_self,Nat.reduceAdd,Nat.reduceMul,Nat.reduceSub,Nat.reduceLeDiff,Nat.reduceLT,defd,cellsOf,wr,packR,Int.reduceLE,Int.reduceLT,Int.reduceEq,Int.cast_ofNat_Int,Int.reduceToNat,cList]
  refine SL.loop (α:=Nat) (fun j=>[(0,.fz vs.length (rS vs)),(1,.fz ps.length (rI .u8 ps)),(6,.ptr 0 0),(7,.i .u32 s.D),(9,.own 1 s.ns.length),(16,.ptr 2 0),(17,.fz RA.2.length (rN RA.2)),(18,.ptr 3 0),(19,.fz RB.2.length (rN RB.2)),(20,.i .i64 (badN vs ps j)),(21,.i .i64 j)])
    (fun _=>[.cells 0 true false (cPol ⟨[],RA.1,s.D,RB.1,[],0,0,false,false,false,false⟩),.cells 4 true true (rN s.ns),.cells 0 true false (cList RA.1),.cells 0 true false (cList RB.1)])
    (fun j=>j ≤ vs.length) (fun j=>vs.length - j) 0 [1,5,6,7] ?_ ?_ ?_ rfl ?_ ?_
  · simp [vW,bw_map,mapAt_map,mapClo_it,mapClo_nil,mapClo_cons,vP,vZ,Tr.get_set,rS_clos,rI_clos,rN_clos,badN]
  · simp [vW,bw_map,mapAt_map,mapClo_it,mapClo_nil,mapClo_cons,vP,vZ,Tr.get_set,cPol,cList,nvs_self,rN_clos,rC_clos,rI_clos]
  · simp
  · exact Nat.zero_le _
  rintro j hjl G ih
  have hbn:=badN_le vs ps j
  simp only [argsT,H0,mkT,mkH,trL,List.length_cons,List.length_nil,Nat.reduceAdd,Nat.zero_add,cPol,cList]
  by_cases hlt:j < vs.length
  · have hx:(rS vs)[j]? = some (.s vs[j]):=by rw [rS_get,List.getElem?_eq_getElem hlt]; rfl
    have hltp:j < ps.length:=by omega
    have hpx:ps[j]? = some ps[j]:=List.getElem?_eq_getElem hltp
    have hvj:=hv vs[j] (List.getElem_mem hlt)
    have hd:vs.getD j [] = vs[j]:=by simp [List.getD,hlt]
    have hdp:ps.getD j 0 = ps[j]:=by simp [List.getD,hltp]
    have hw:IntKind.wrap .i64 ((j:Int) + 1) = ((j + 1:Nat):Int):=by rw [wrap64 (by omega) (by omega)]; omega
    have hwb:IntKind.wrap .i64 ((badN vs ps j:Int) + 1) = ((badN vs ps j + 1:Nat):Int):=by rw [wrap64 (by omega) (by omega)]; omega
    have hnext:badN vs ps (j + 1) = badN vs ps j + (if ps[j].tmod 4 = 2 ∧ (errF vs[j]).2 ≠ 0 then 1 else 0):=by rw [badN,hd,hdp]
    have ih2:=ih (j + 1)
    rw [hnext] at ih2
    generalize vs[j] = v at hx hvj ih2
    generalize ps[j] = q at hpx ih2
    simp only [↓vS,cvF_pc,vP,shb,shv,shvs,she_nil,she_cons,vC,vQ,not_false_eq_true,Nat.reduceEqDiff,↓reduceIte,eq_self,Nat.reduceAdd,Nat.reduceMul,Nat.reduceSub,Nat.reduceLeDiff,Nat.reduceLT,defd,cellsOf,wr,packR,Int.reduceLE,Int.reduceLT,Int.reduceEq,Int.cast_ofNat_Int,Int.reduceToNat,hlt,Nat.mul_one,hx]
    refine (h4 v (by omega)).sc ?_
    by_cases hq:q.tmod 4 = 2
    · by_cases he:(errF v).2 = 0
      · simp (decide:=true) only [↓vS,cvF_pc,vP,shb,shv,shvs,she_nil,she_cons,vC,vQ,not_false_eq_true,Nat.reduceEqDiff,↓reduceIte,eq_self,Nat.reduceAdd,Nat.reduceMul,Nat.reduceSub,Nat.reduceLeDiff,Nat.reduceLT,defd,cellsOf,wr,packR,Int.reduceLE,Int.reduceLT,Int.reduceEq,Int.cast_ofNat_Int,Int.reduceToNat,hltp,Nat.mul_one,rI_get,hpx,Option.map_some,bin_rem4,hq,he,hw]
        rw [if_neg (by simp [he])] at ih2
        refine ih2 (by omega) (by omega) _ _ (Wk.mk _ _ [0,1,2,3] ?_ ?_ ?_ rfl)
        · simp [vW,bw_map,mapAt_map,mapClo_it,mapClo_nil,mapClo_cons,vP,vZ,Tr.get_set,rS_clos,rI_clos,rN_clos]
        · simp [vW,bw_map,mapAt_map,mapClo_it,mapClo_nil,mapClo_cons,vP,vZ,Tr.get_set,cPol,cList,nvs_self,rN_clos,rC_clos,rI_clos]
        · simp
      · simp (decide:=true) only [↓vS,cvF_pc,vP,shb,shv,shvs,she_nil,she_cons,vC,vQ,not_false_eq_true,Nat.reduceEqDiff,↓reduceIte,eq_self,Nat.reduceAdd,Nat.reduceMul,Nat.reduceSub,Nat.reduceLeDiff,Nat.reduceLT,defd,cellsOf,wr,packR,Int.reduceLE,Int.reduceLT,Int.reduceEq,Int.cast_ofNat_Int,Int.reduceToNat,hltp,Nat.mul_one,rI_get,hpx,Option.map_some,bin_rem4,hq,he,hw,hwb]
        rw [if_pos ⟨hq,he⟩] at ih2
        refine ih2 (by omega) (by omega) _ _ (Wk.mk _ _ [0,1,2,3] ?_ ?_ ?_ rfl)
        · simp [vW,bw_map,mapAt_map,mapClo_it,mapClo_nil,mapClo_cons,vP,vZ,Tr.get_set,rS_clos,rI_clos,rN_clos]
        · simp [vW,bw_map,mapAt_map,mapClo_it,mapClo_nil,mapClo_cons,vP,vZ,Tr.get_set,cPol,cList,nvs_self,rN_clos,rC_clos,rI_clos]
        · simp
    · simp (decide:=true) only [↓vS,cvF_pc,vP,shb,shv,shvs,she_nil,she_cons,vC,vQ,not_false_eq_true,Nat.reduceEqDiff,↓reduceIte,eq_self,Nat.reduceAdd,Nat.reduceMul,Nat.reduceSub,Nat.reduceLeDiff,Nat.reduceLT,defd,cellsOf,wr,packR,Int.reduceLE,Int.reduceLT,Int.reduceEq,Int.cast_ofNat_Int,Int.reduceToNat,hltp,Nat.mul_one,rI_get,hpx,Option.map_some,bin_rem4,hq,hw]
      rw [if_neg (by simp [hq])] at ih2
      refine ih2 (by omega) (by omega) _ _ (Wk.mk _ _ [0,1,2,3] ?_ ?_ ?_ rfl)
      · simp [vW,bw_map,mapAt_map,mapClo_it,mapClo_nil,mapClo_cons,vP,vZ,Tr.get_set,rS_clos,rI_clos,rN_clos]
      · simp [vW,bw_map,mapAt_map,mapClo_it,mapClo_nil,mapClo_cons,vP,vZ,Tr.get_set,cPol,cList,nvs_self,rN_clos,rC_clos,rI_clos]
      · simp
  · have hjn:j = vs.length:=by omega
    subst hjn
    rw [hj] at k6
    have e1:IntKind.wrap .i64 ((RA.2.length:Int) + RB.2.length) = ((RA.2.length + RB.2.length:Nat):Int):=by rw [wrap64 (by omega) (by omega)]; omega
    have e2:IntKind.wrap .i64 (((RA.2.length + RB.2.length:Nat):Int) + badN vs ps vs.length) = (s.ns.length:Int):=by rw [wrap64 (by omega) (by omega)]; omega
    simp only [↓vS,cvF_pc,vP,shb,shv,shvs,she_nil,she_cons,vC,vQ,not_false_eq_true,Nat.reduceEqDiff,↓reduceIte,eq_self,Nat.reduceAdd,Nat.reduceMul,Nat.reduceSub,Nat.reduceLeDiff,Nat.reduceLT,defd,cellsOf,wr,packR,Int.reduceLE,Int.reduceLT,Int.reduceEq,Int.cast_ofNat_Int,Int.reduceToNat,hlt]
    refine (h6 RA.1 (by omega)).sc ?_
    simp only [↓vS,cvF_pc,vP,shb,shv,shvs,she_nil,she_cons,vC,vQ,not_false_eq_true,Nat.reduceEqDiff,↓reduceIte,eq_self,Nat.reduceAdd,Nat.reduceMul,Nat.reduceSub,Nat.reduceLeDiff,Nat.reduceLT,defd,cellsOf,wr,packR,Int.reduceLE,Int.reduceLT,Int.reduceEq,Int.cast_ofNat_Int,Int.reduceToNat]
    refine (h6 RB.1 (by omega)).sc ?_
    simp only [↓vS,cvF_pc,vP,shb,shv,shvs,she_nil,she_cons,vC,vQ,not_false_eq_true,Nat.reduceEqDiff,↓reduceIte,eq_self,Nat.reduceAdd,Nat.reduceMul,Nat.reduceSub,Nat.reduceLeDiff,Nat.reduceLT,defd,cellsOf,wr,packR,Int.reduceLE,Int.reduceLT,Int.reduceEq,Int.cast_ofNat_Int,Int.reduceToNat,e1,e2]
    refine h1.sc ?_
    simp only [↓vS,cvF_pc,vP,shb,shv,shvs,she_nil,she_cons,vC,vQ,not_false_eq_true,Nat.reduceEqDiff,↓reduceIte,eq_self,Nat.reduceAdd,Nat.reduceMul,Nat.reduceSub,Nat.reduceLeDiff,Nat.reduceLT,defd,cellsOf,wr,packR,Int.reduceLE,Int.reduceLT,Int.reduceEq,Int.cast_ofNat_Int,Int.reduceToNat]
    simp [vZ]
end Go.Kc
end
section
/- FilterLists: the law. Condition: the functions' texts are these. -/
namespace Go.Kc
variable {P:Program} {f:Nat}
theorem flists_up {g1 g2 g3 g4 g5 g6:Nat} {E:List UInt8 → List (List UInt8) × Int} (vs:List (List UInt8)) (ps:List Int) (s:LS) (j:Nat) (hj:j < 100000) (Q:X → Tr AV → Hp → Prop)
    (hQ:∀ t' h',Wk 0 t' h' (mkT (flT vs ps s (j + 1))) (mkH 0 (flB E s)) → Q .normal t' h') :
    S P 0 (ir_vestibulelaw17_FilterLists_c41 g1 g2 g3 g4 g5 g6) Q (mkT (flT vs ps s j)) (mkH 0 (flB E s)):=by
  have hw:IntKind.wrap .i64 ((j:Int) + 1) = ((j + 1:Nat):Int):=by rw [wrap64 (by omega) (by omega)]; omega
  refine V_sound ?_
  simp only [ir_vestibulelaw17_FilterLists_c41,flT,flB,keysB,cPol,argsT,H0,mkT,mkH,trL,List.length_cons,List.length_nil,Nat.reduceAdd,Nat.zero_add]
  simp only [↓vS,cvF_pc,vP,shb,shv,shvs,she_nil,she_cons,vC,vQ,not_false_eq_true,Nat.reduceEqDiff,↓reduceIte,eq_self,Nat.reduceAdd,Nat.reduceMul,Nat.reduceSub,Nat.reduceLeDiff,Nat.reduceLT,defd,cellsOf,wr,packR,Int.reduceLE,Int.reduceLT,Int.reduceEq,Int.cast_ofNat_Int,Int.reduceToNat,hw]
  refine hQ _ _ (Wk.mk _ _ [0,1,2,3,4,5] ?_ ?_ ?_ rfl)
  · simp [vW,bw_map,mapAt_map,mapClo_it,mapClo_nil,mapClo_cons,vP,vZ,Tr.get_set,flT,flB,rS_clos,rI_clos]
  · simp [vW,bw_map,mapAt_map,mapClo_it,mapClo_nil,mapClo_cons,vP,vZ,Tr.get_set,flB,keysB,cPol,nvs_self,rN_clos,rS_clos]
  · simp
theorem filterLists {g1 g2 g3 g4 g5 g6:Nat} {E:List UInt8 → List (List UInt8) × Int} (hc:chkFn P f (ir_vestibulelaw17_FilterLists g1 g2 g3 g4 g5 g6) = true) (hE:ExpOk E) (h1:Pure P g1 [] (.b true)) (h2:cOf P g2) (h3:cSetF E P g3) (h4:cErrF P g4) (h5:cFold E P g5) (h6:cSameL P g6)
    (vs:List (List UInt8)) (ps:List Int) (hr:∀ p ∈ ps,0 ≤ p):Pure P f [.fz vs.length (rS vs),.fz ps.length (rI .u8 ps)] (.b true):=by
  refine Pure.mk hc (by simp [clos,clo,rS_clos,rI_clos]) ?_
  simp only [ir_vestibulelaw17_FilterLists,argsT,H0,mkT,mkH,trL,List.length_cons,List.length_nil,Nat.reduceAdd,Nat.zero_add]
  by_cases hn:(20:Int) < vs.length
  · simp only [↓vS,cvF_pc,vP,shb,shv,shvs,she_nil,she_cons,vC,vQ,not_false_eq_true,Nat.reduceEqDiff,↓reduceIte,eq_self,Nat.reduceAdd,Nat.reduceMul,Nat.reduceSub,Nat.reduceLeDiff,Nat.reduceLT,defd,cellsOf,wr,packR,Int.reduceLE,Int.reduceLT,Int.reduceEq,Int.cast_ofNat_Int,Int.reduceToNat,hn]
    refine h1.sc ?_
    simp only [↓vS,cvF_pc,vP,shb,shv,shvs,she_nil,she_cons,vC,vQ,not_false_eq_true,Nat.reduceEqDiff,↓reduceIte,eq_self,Nat.reduceAdd,Nat.reduceMul,Nat.reduceSub,Nat.reduceLeDiff,Nat.reduceLT,defd,cellsOf,wr,packR,Int.reduceLE,Int.reduceLT,Int.reduceEq,Int.cast_ofNat_Int,Int.reduceToNat]
    simp [vZ]
  by_cases hp:((ps.length:Int) < vs.length)
  · simp only [↓vS,cvF_pc,vP,shb,shv,shvs,she_nil,she_cons,vC,vQ,not_false_eq_true,Nat.reduceEqDiff,↓reduceIte,eq_self,Nat.reduceAdd,Nat.reduceMul,Nat.reduceSub,Nat.reduceLeDiff,Nat.reduceLT,defd,cellsOf,wr,packR,Int.reduceLE,Int.reduceLT,Int.reduceEq,Int.cast_ofNat_Int,Int.reduceToNat,hn,hp]
    refine h1.sc ?_
    simp only [↓vS,cvF_pc,vP,shb,shv,shvs,she_nil,she_cons,vC,vQ,not_false_eq_true,Nat.reduceEqDiff,↓reduceIte,eq_self,Nat.reduceAdd,Nat.reduceMul,Nat.reduceSub,Nat.reduceLeDiff,Nat.reduceLT,defd,cellsOf,wr,packR,Int.reduceLE,Int.reduceLT,Int.reduceEq,Int.cast_ofNat_Int,Int.reduceToNat]
    simp [vZ]
  simp (decide:=true) only [↓vS,cvF_pc,vP,shb,shv,shvs,she_nil,she_cons,vC,vQ,not_false_eq_true,Nat.reduceEqDiff,↓reduceIte,eq_self,Nat.reduceAdd,Nat.reduceMul,Nat.reduceSub,Nat.reduceLeDiff,Nat.reduceLT,defd,cellsOf,wr,packR,Int.reduceLE,Int.reduceLT,Int.reduceEq,Int.cast_ofNat_Int,Int.reduceToNat,hn,hp]
  refine SL.loop (α:=LS) (fun s=>flT vs ps s s.j) (fun s=>flB E s) (fun s=>LOk E vs ps s ∧ ∀ v ∈ vs.take s.j,v.length ≤ 300) (fun s=>vs.length - s.j) ⟨0,[],[],2147483648,[]⟩ [0,1,2,3,4,5] ?_ ?_ ?_ rfl ?_ ?_
  · simp [vW,bw_map,mapAt_map,mapClo_it,mapClo_nil,mapClo_cons,vP,vZ,Tr.get_set,flT,flB,rS_clos,rI_clos]
  · simp [vW,bw_map,mapAt_map,mapClo_it,mapClo_nil,mapClo_cons,vP,vZ,Tr.get_set,flB,keysB,cPol,polS,foldM,nvs_self,rN_nil,rC_nil,rS_nil]
    exact ⟨⟨rfl,rfl,rfl,rfl⟩,rfl,rfl⟩
  · simp [flB]
  · exact ⟨⟨Nat.zero_le _,Nat.le_refl _,Nat.le_refl _,by simp,by simp,by simp [foldM,badN]⟩,by simp⟩
  rintro s ⟨hs,hsv⟩ G ih
  by_cases hj:s.j < vs.length
  · have hx:(rS vs)[s.j]? = some (.s vs[s.j]):=by rw [rS_get,List.getElem?_eq_getElem hj]; rfl
    have hltp:s.j < ps.length:=by omega
    have hpx:ps[s.j]? = some ps[s.j]:=List.getElem?_eq_getElem hltp
    have hd:vs.getD s.j [] = vs[s.j]:=by simp [List.getD,hj]
    have hdp:ps.getD s.j 0 = ps[s.j]:=by simp [List.getD,hltp]
    have hq0:=hr _ (List.getElem_mem hltp)
    have hq:ps[s.j].tmod 4 = 0 ∨ ps[s.j].tmod 4 = 1 ∨ ps[s.j].tmod 4 = 2 ∨ ps[s.j].tmod 4 = 3:=by
      rw [Int.tmod_eq_emod_of_nonneg hq0]; omega
    have hnv:∀ v ∈ vs.take (s.j + 1),v ∈ vs.take s.j ∨ v = vs[s.j]:=by
      intro v hv
      rw [List.take_add_one,List.getElem?_eq_getElem hj] at hv
      rcases List.mem_append.1 hv with h | h
      · exact .inl h
      · exact .inr (List.mem_singleton.1 h)
    generalize vs[s.j] = v at hx hd hnv
    generalize ps[s.j] = q at hpx hdp hq hq0
    by_cases hv:(300:Int) < v.length
    · simp only [flT,flB,keysB,cPol,argsT,H0,mkT,mkH,trL,List.length_cons,List.length_nil,Nat.reduceAdd,Nat.zero_add]
      simp only [↓vS,cvF_pc,vP,shb,shv,shvs,she_nil,she_cons,vC,vQ,not_false_eq_true,Nat.reduceEqDiff,↓reduceIte,eq_self,Nat.reduceAdd,Nat.reduceMul,Nat.reduceSub,Nat.reduceLeDiff,Nat.reduceLT,defd,cellsOf,wr,packR,Int.reduceLE,Int.reduceLT,Int.reduceEq,Int.cast_ofNat_Int,Int.reduceToNat,hj,Nat.mul_one,hx,hv]
      refine h1.sc ?_
      simp only [↓vS,cvF_pc,vP,shb,shv,shvs,she_nil,she_cons,vC,vQ,not_false_eq_true,Nat.reduceEqDiff,↓reduceIte,eq_self,Nat.reduceAdd,Nat.reduceMul,Nat.reduceSub,Nat.reduceLeDiff,Nat.reduceLT,defd,cellsOf,wr,packR,Int.reduceLE,Int.reduceLT,Int.reduceEq,Int.cast_ofNat_Int,Int.reduceToNat]
      simp [vZ]
    · have hv3:v.length ≤ 300:=by omega
      have go:∀ (Q:X → Tr AV → Hp → Prop),(∀ s',LOk E vs ps s' → s'.j = s.j + 1 → ∀ t' h',Wk 0 t' h' (mkT (flT vs ps s' s.j)) (mkH 0 (flB E s')) → Q .normal t' h') →
          S P 0 (ir_vestibulelaw17_FilterLists_c56 g1 g2 g3 g4 g5 g6) Q (mkT ((11,.i .u8 (q.tmod 4)) :: flT vs ps s s.j)) (mkH 0 (flB E s)):=by
        intro Q hQ
        rcases hq with hq | hq | hq | hq
        · rw [hq]; exact flists_0 hE h2 h3 h4 vs ps s hs (by omega) v hj hx hv3 (by rw [hdp]; exact hq) Q hQ
        · rw [hq]; exact flists_1 hE h2 h3 h4 vs ps s hs (by omega) v hj hx hv3 (by rw [hdp]; exact hq) Q hQ
        · rw [hq]
          by_cases hz:(errF v).2 = 0
          · exact flists_2 hE h2 h3 h4 vs ps s hs (by omega) v hj hx hv3 hd (by rw [hdp]; exact hq) hz Q hQ
          · exact flists_2e hE h2 h3 h4 vs ps s hs (by omega) v hj hx hv3 hd (by rw [hdp]; exact hq) hz Q hQ
        · rw [hq]; exact flists_3 hE h2 h3 h4 vs ps s hs (by omega) v hj hx hv3 hd (by rw [hdp]; exact hq) Q hQ
      simp only [flT,flB,keysB,cPol,argsT,H0,mkT,mkH,trL,List.length_cons,List.length_nil,Nat.reduceAdd,Nat.zero_add]
      simp only [↓vS,cvF_pc,vP,shb,shv,shvs,she_nil,she_cons,vC,vQ,not_false_eq_true,Nat.reduceEqDiff,↓reduceIte,eq_self,Nat.reduceAdd,Nat.reduceMul,Nat.reduceSub,Nat.reduceLeDiff,Nat.reduceLT,defd,cellsOf,wr,packR,Int.reduceLE,Int.reduceLT,Int.reduceEq,Int.cast_ofNat_Int,Int.reduceToNat,hj,hltp,Nat.mul_one,hx,hv,rI_get,hpx,Option.map_some,bin_rem4]
      refine S.weak (Wk.mk _ _ [0,1,2,3,4,5] ?_ ?_ ?_ rfl) (go _ (fun s' hs' hj' t' h' hw=>?_))
      · simp [vW,bw_map,mapAt_map,mapClo_it,mapClo_nil,mapClo_cons,vP,vZ,Tr.get_set,flT,flB,rS_clos,rI_clos]
      · simp [vW,bw_map,mapAt_map,mapClo_it,mapClo_nil,mapClo_cons,vP,vZ,Tr.get_set,flB,keysB,cPol,nvs_self,rN_clos,rS_clos]
      · simp
      · simp only [↓vS,cvF_pc,vP,shb,shv,shvs,she_nil,she_cons,vC,vQ,not_false_eq_true,Nat.reduceEqDiff,↓reduceIte,eq_self,Nat.reduceAdd,Nat.reduceMul,Nat.reduceSub,Nat.reduceLeDiff,Nat.reduceLT,defd,cellsOf,wr,packR,Int.reduceLE,Int.reduceLT,Int.reduceEq,Int.cast_ofNat_Int,Int.reduceToNat]
        refine S.weak hw (flists_up vs ps s' s.j (by omega) _ (fun t'' h'' hw'=>?_))
        rw [← hj'] at hw'
        refine ih s' ⟨hs',?_⟩ (by omega) t'' h'' hw'
        rw [hj']
        intro w hw2
        rcases hnv w hw2 with h | h
        · exact hsv w h
        · rw [h]; exact hv3
  · have hjn:s.j = vs.length:=by have:=hs.1; omega
    rw [hjn,List.take_length] at hsv
    have hend:=flists_end (g2:=g2) (g3:=g3) hE h1 h4 h5 h6 vs ps s hs (by omega) (by omega) hsv hjn
    simp only [flT,flB,keysB,cPol,argsT,H0,mkT,mkH,trL,List.length_cons,List.length_nil,Nat.reduceAdd,Nat.zero_add]
    simp only [↓vS,cvF_pc,vP,shb,shv,shvs,she_nil,she_cons,vC,vQ,not_false_eq_true,Nat.reduceEqDiff,↓reduceIte,eq_self,Nat.reduceAdd,Nat.reduceMul,Nat.reduceSub,Nat.reduceLeDiff,Nat.reduceLT,defd,cellsOf,wr,packR,Int.reduceLE,Int.reduceLT,Int.reduceEq,Int.cast_ofNat_Int,Int.reduceToNat,hj]
    refine S.weak (Wk.mk _ _ [0,1,2,3,4,5] ?_ ?_ ?_ rfl) hend
    · simp [vW,bw_map,mapAt_map,mapClo_it,mapClo_nil,mapClo_cons,vP,vZ,Tr.get_set,flT,flB,rS_clos,rI_clos]
    · simp [vW,bw_map,mapAt_map,mapClo_it,mapClo_nil,mapClo_cons,vP,vZ,Tr.get_set,flB,keysB,cPol,nvs_self,rN_clos,rS_clos]
    · simp
end Go.Kc
end
