/- Part 10 of the abstract machine and of the functions' walks. Conditions: with each theorem. -/
import Derived.Test.YtdmjpfekglajoaaGreatK9
set_option linter.unusedSimpArgs false
set_option linter.unusedVariables false
set_option linter.unnecessarySimpa false
section
/- What the document makes of a list by a value, and by values. Condition: the functions' texts are these. -/
namespace Go.Kc
variable {P:Program} {f:Nat}
def cWords15 (P:Program) (f:Nat):Prop:=∀ s:List UInt8,s.length ≤ 1000000 → Pure P f [.s s] (.fz (words s).length (rS (words s)))
def cTurn15 (P:Program) (f:Nat):Prop:=∀ s:List UInt8,Pure P f [.s s] (.tup [.s (turnP s).1,.b (turnP s).2])
def cStepR (E:List UInt8 → List (List UInt8) × Int) (P:Program) (f:Nat):Prop:=∀ (l:GList) (v:List UInt8) (fl:Bool),l.calls.length ≤ 100000 → v.length ≤ 1000 → 0 ≤ l.mode → Rng l.calls →
  Pure P f [.agg (cList l),.s v,.b fl] (.tup [.agg (cList (stepM E l v fl).1),.fz (stepM E l v fl).2.length (rN (stepM E l v fl).2)])
theorem step16 {g1 g2 g3 g4 g5 g6 g7 g8:Nat} {E:List UInt8 → List (List UInt8) × Int} (hc:chkFn P f (ir_vestibuleref16_Step g1 g2 g3 g4 g5 g6 g7 g8) = true) (hE:ExpOk E) (h1:cMayR P g1) (h2:cWords15 P g2) (h3:cTurn15 P g3) (h4:cRead P g4) (h5:cExp E P g5) (h6:∀ s,Pure P g6 [.s s] (.b (knownM s))) (h7:cPutR P g7) (h8:cTake0 P g8):cStepR E P f:=by
  intro l v fl hl hv hm0 hR
  have htl:=turnP_len v
  refine Pure.mk hc rfl ?_
  simp only [ir_vestibuleref16_Step,cList,argsT,H0,mkT,mkH,trL,List.length_cons,List.length_nil,Nat.reduceAdd,Nat.zero_add]
  simp only [↓vS,cvF_pc,vP,shb,shv,shvs,she_nil,she_cons,vC,vQ,not_false_eq_true,Nat.reduceEqDiff,↓reduceIte,eq_self,Nat.reduceAdd,Nat.reduceMul,Nat.reduceSub,Nat.reduceLeDiff,Nat.reduceLT,defd,cellsOf,wr,packR,Int.reduceLE,Int.reduceLT,Int.reduceEq,Int.cast_ofNat_Int,Int.reduceToNat]
  refine (h1 l hl hR).sc ?_
  cases hM:mayM l with
  | false =>
    have hs:stepM E l v fl = (l,[]):=if_pos hM
    rw [hs]
    simp only [↓vS,cvF_pc,vP,shb,shv,shvs,she_nil,she_cons,vC,vQ,not_false_eq_true,Nat.reduceEqDiff,↓reduceIte,eq_self,Nat.reduceAdd,Nat.reduceMul,Nat.reduceSub,Nat.reduceLeDiff,Nat.reduceLT,defd,cellsOf,wr,packR,Int.reduceLE,Int.reduceLT,Int.reduceEq,Int.cast_ofNat_Int,Int.reduceToNat]
    simp [vZ,vP,Tr.get_set,cList,frzs_self rC_clos,rN]
  | true =>
    have hmm:=((mayM_iff l).1 hM).1
    simp only [↓vS,cvF_pc,vP,shb,shv,shvs,she_nil,she_cons,vC,vQ,not_false_eq_true,Nat.reduceEqDiff,↓reduceIte,eq_self,Nat.reduceAdd,Nat.reduceMul,Nat.reduceSub,Nat.reduceLeDiff,Nat.reduceLT,defd,cellsOf,wr,packR,Int.reduceLE,Int.reduceLT,Int.reduceEq,Int.cast_ofNat_Int,Int.reduceToNat]
    refine (h2 v (by omega)).sc ?_
    by_cases hw:words v = []
    · have hs:stepM E l v fl = (⟨0,[]⟩,[]):=by unfold stepM; rw [if_neg (by simp [hM]),if_pos hw]
      rw [hs]
      simp only [↓vS,cvF_pc,vP,shb,shv,shvs,she_nil,she_cons,vC,vQ,not_false_eq_true,Nat.reduceEqDiff,↓reduceIte,eq_self,Nat.reduceAdd,Nat.reduceMul,Nat.reduceSub,Nat.reduceLeDiff,Nat.reduceLT,defd,cellsOf,wr,packR,Int.reduceLE,Int.reduceLT,Int.reduceEq,Int.cast_ofNat_Int,Int.reduceToNat,hw,List.length_nil]
      simp [vZ,vP,Tr.get_set,cList,rN,rC]
    · have hwn:¬ ((words v).length:Int) = 0:=by have:=List.length_pos_iff.2 hw; omega
      have hs:stepM E l v fl = (words (turnP v).1).foldl (stepW E fl (turnP v).2) (⟨modeM l.mode (turnP v).2,l.calls⟩,[]):=by
        unfold stepM; rw [if_neg (by simp [hM]),if_neg hw]; rfl
      rw [hs]
      simp only [↓vS,cvF_pc,vP,shb,shv,shvs,she_nil,she_cons,vC,vQ,not_false_eq_true,Nat.reduceEqDiff,↓reduceIte,eq_self,Nat.reduceAdd,Nat.reduceMul,Nat.reduceSub,Nat.reduceLeDiff,Nat.reduceLT,defd,cellsOf,wr,packR,Int.reduceLE,Int.reduceLT,Int.reduceEq,Int.cast_ofNat_Int,Int.reduceToNat,hwn]
      refine (h3 v).sc ?_
      have key:∀ (m:Int),m = modeM l.mode (turnP v).2 → mayM ⟨m,l.calls⟩ = true ∧ (m = 1 ∨ m = 2):=by
        intro m hm
        have hpos:=modeM_pos l.mode (turnP v).2
        have h12:m = 1 ∨ m = 2:=by
          rw [hm]; unfold modeM at hpos ⊢; split
          · split <;> simp
          · have:=hmm.1; omega
        exact ⟨by rw [hm]; exact may_mode hM _,h12⟩
      cases ht:(turnP v).2 with
      | true =>
        rw [ht] at key
        by_cases h0:l.mode = 0
        · have e:modeM 0 true = 2:=rfl
          obtain ⟨k1,k2⟩:=key 2 (by rw [h0]; rfl)
          rw [show modeM l.mode true = 2 from by rw [h0]; rfl]
          simp only [↓vS,cvF_pc,vP,shb,shv,shvs,she_nil,she_cons,vC,vQ,not_false_eq_true,Nat.reduceEqDiff,↓reduceIte,eq_self,Nat.reduceAdd,Nat.reduceMul,Nat.reduceSub,Nat.reduceLeDiff,Nat.reduceLT,defd,cellsOf,wr,packR,Int.reduceLE,Int.reduceLT,Int.reduceEq,Int.cast_ofNat_Int,Int.reduceToNat,h0]
          refine (h2 (turnP v).1 (by omega)).sc ?_
          simp only [↓vS,cvF_pc,vP,shb,shv,shvs,she_nil,she_cons,vC,vQ,not_false_eq_true,Nat.reduceEqDiff,↓reduceIte,eq_self,Nat.reduceAdd,Nat.reduceMul,Nat.reduceSub,Nat.reduceLeDiff,Nat.reduceLT,defd,cellsOf,wr,packR,Int.reduceLE,Int.reduceLT,Int.reduceEq,Int.cast_ofNat_Int,Int.reduceToNat]
          refine S.weak (Wk.mk _ _ [0,1,2] ?_ ?_ ?_ rfl) (step16_7 hE h4 h5 h6 h7 h8 fl true (turnP v).1 (by omega) ⟨2,l.calls⟩ k1 k2)
          · simp [vW,bw_map,mapAt_map,mapClo_it,mapClo_nil,mapClo_cons,vP,vZ,Tr.get_set,rS_clos]
          · simp [vW,bw_map,mapAt_map,mapClo_it,mapClo_nil,mapClo_cons,vP,vZ,Tr.get_set,cList,nvs_self,rC_clos]
          · simp
        · have e:modeM l.mode true = l.mode:=if_neg h0
          obtain ⟨k1,k2⟩:=key l.mode e.symm
          rw [e]
          simp only [↓vS,cvF_pc,vP,shb,shv,shvs,she_nil,she_cons,vC,vQ,not_false_eq_true,Nat.reduceEqDiff,↓reduceIte,eq_self,Nat.reduceAdd,Nat.reduceMul,Nat.reduceSub,Nat.reduceLeDiff,Nat.reduceLT,defd,cellsOf,wr,packR,Int.reduceLE,Int.reduceLT,Int.reduceEq,Int.cast_ofNat_Int,Int.reduceToNat,h0]
          refine (h2 (turnP v).1 (by omega)).sc ?_
          simp only [↓vS,cvF_pc,vP,shb,shv,shvs,she_nil,she_cons,vC,vQ,not_false_eq_true,Nat.reduceEqDiff,↓reduceIte,eq_self,Nat.reduceAdd,Nat.reduceMul,Nat.reduceSub,Nat.reduceLeDiff,Nat.reduceLT,defd,cellsOf,wr,packR,Int.reduceLE,Int.reduceLT,Int.reduceEq,Int.cast_ofNat_Int,Int.reduceToNat]
          refine S.weak (Wk.mk _ _ [0,1,2] ?_ ?_ ?_ rfl) (step16_7 hE h4 h5 h6 h7 h8 fl true (turnP v).1 (by omega) ⟨l.mode,l.calls⟩ k1 k2)
          · simp [vW,bw_map,mapAt_map,mapClo_it,mapClo_nil,mapClo_cons,vP,vZ,Tr.get_set,rS_clos]
          · simp [vW,bw_map,mapAt_map,mapClo_it,mapClo_nil,mapClo_cons,vP,vZ,Tr.get_set,cList,nvs_self,rC_clos]
          · simp
      | false =>
        rw [ht] at key
        by_cases h0:l.mode = 0
        · obtain ⟨k1,k2⟩:=key 1 (by rw [h0]; rfl)
          rw [show modeM l.mode false = 1 from by rw [h0]; rfl]
          simp only [↓vS,cvF_pc,vP,shb,shv,shvs,she_nil,she_cons,vC,vQ,not_false_eq_true,Nat.reduceEqDiff,↓reduceIte,eq_self,Nat.reduceAdd,Nat.reduceMul,Nat.reduceSub,Nat.reduceLeDiff,Nat.reduceLT,defd,cellsOf,wr,packR,Int.reduceLE,Int.reduceLT,Int.reduceEq,Int.cast_ofNat_Int,Int.reduceToNat,h0]
          refine (h2 (turnP v).1 (by omega)).sc ?_
          simp only [↓vS,cvF_pc,vP,shb,shv,shvs,she_nil,she_cons,vC,vQ,not_false_eq_true,Nat.reduceEqDiff,↓reduceIte,eq_self,Nat.reduceAdd,Nat.reduceMul,Nat.reduceSub,Nat.reduceLeDiff,Nat.reduceLT,defd,cellsOf,wr,packR,Int.reduceLE,Int.reduceLT,Int.reduceEq,Int.cast_ofNat_Int,Int.reduceToNat]
          refine S.weak (Wk.mk _ _ [0,1,2] ?_ ?_ ?_ rfl) (step16_7 hE h4 h5 h6 h7 h8 fl false (turnP v).1 (by omega) ⟨1,l.calls⟩ k1 k2)
          · simp [vW,bw_map,mapAt_map,mapClo_it,mapClo_nil,mapClo_cons,vP,vZ,Tr.get_set,rS_clos]
          · simp [vW,bw_map,mapAt_map,mapClo_it,mapClo_nil,mapClo_cons,vP,vZ,Tr.get_set,cList,nvs_self,rC_clos]
          · simp
        · have e:modeM l.mode false = l.mode:=if_neg h0
          obtain ⟨k1,k2⟩:=key l.mode e.symm
          rw [e]
          simp only [↓vS,cvF_pc,vP,shb,shv,shvs,she_nil,she_cons,vC,vQ,not_false_eq_true,Nat.reduceEqDiff,↓reduceIte,eq_self,Nat.reduceAdd,Nat.reduceMul,Nat.reduceSub,Nat.reduceLeDiff,Nat.reduceLT,defd,cellsOf,wr,packR,Int.reduceLE,Int.reduceLT,Int.reduceEq,Int.cast_ofNat_Int,Int.reduceToNat,h0]
          refine (h2 (turnP v).1 (by omega)).sc ?_
          simp only [↓vS,cvF_pc,vP,shb,shv,shvs,she_nil,she_cons,vC,vQ,not_false_eq_true,Nat.reduceEqDiff,↓reduceIte,eq_self,Nat.reduceAdd,Nat.reduceMul,Nat.reduceSub,Nat.reduceLeDiff,Nat.reduceLT,defd,cellsOf,wr,packR,Int.reduceLE,Int.reduceLT,Int.reduceEq,Int.cast_ofNat_Int,Int.reduceToNat]
          refine S.weak (Wk.mk _ _ [0,1,2] ?_ ?_ ?_ rfl) (step16_7 hE h4 h5 h6 h7 h8 fl false (turnP v).1 (by omega) ⟨l.mode,l.calls⟩ k1 k2)
          · simp [vW,bw_map,mapAt_map,mapClo_it,mapClo_nil,mapClo_cons,vP,vZ,Tr.get_set,rS_clos]
          · simp [vW,bw_map,mapAt_map,mapClo_it,mapClo_nil,mapClo_cons,vP,vZ,Tr.get_set,cList,nvs_self,rC_clos]
          · simp
def ir_vestibuleref16_Fold (f_vestibuleref16_Step:Nat):IFn:=⟨[.cell 4 2 true,.tmp 5],
  .seq (.reg false [⟨(some 4),.op (.alloc [.i .u8 0,.nils]),none⟩,
    ⟨(some 5),.op (.mov (.c (.nils))),none⟩])
  (.seq (.reg false [⟨(some 11),.op (.build [.i .u8 0,.nils] []),none⟩,
    ⟨(some 6),.op (.alloc [.i .u8 0,.nils]),none⟩,
    ⟨none,.op (.store 2 (.t 6) (.t 11)),none⟩])
  (.seq (.reg false [⟨(some 7),.op (.mov (.c (.nils))),none⟩])
  (.seq (.seq (.reg false [⟨(some 8),.op (.mov (.c (.i .i64 0))),none⟩])
  (.blk 0 (.loop (.seq (.seq (.reg false [⟨(some 12),.op (.mov (.t 8)),none⟩,
    ⟨(some 13),.op (.mov (.t 0)),none⟩,
    ⟨(some 14),.op (.len false (.t 13)),none⟩,
    ⟨(some 15),.op (.bin .lss (.t 12) (.t 14)),none⟩])
  (.cond (.t 15) (.skip) (.exit 0)))
  (.seq (.blk 1 (.seq (.reg true [⟨(some 19),.op (.loadN 2 (.t 6)),none⟩,
    ⟨(some 20),.op (.mov (.t 0)),none⟩,
    ⟨(some 21),.op (.mov (.t 8)),none⟩,
    ⟨(some 22),.op (.iAddrS 1 (.t 20) (.t 21)),none⟩,
    ⟨(some 23),.op (.load1 (.t 22)),none⟩,
    ⟨(some 24),.op (.mov (.t 1)),none⟩,
    ⟨(some 25),.callF f_vestibuleref16_Step [(.t 19),(.t 23),(.t 24)],none⟩,
    ⟨(some 18),.op (.mov (.t 25)),none⟩,
    ⟨(some 26),.op (.ext (.t 18) 0),none⟩,
    ⟨(some 27),.op (.ext (.t 18) 1),none⟩,
    ⟨(some 9),.op (.alloc [.i .u8 0,.nils]),none⟩,
    ⟨none,.op (.store 2 (.t 9) (.t 26)),none⟩,
    ⟨(some 10),.op (.mov (.t 27)),none⟩])
  (.seq (.reg false [⟨(some 28),.op (.loadN 2 (.t 9)),none⟩,
    ⟨none,.op (.store 2 (.t 6) (.t 28)),none⟩])
  (.reg false [⟨(some 29),.op (.mov (.t 7)),none⟩,
    ⟨(some 30),.op (.mov (.t 10)),none⟩,
    ⟨(some 31),.op (.app 4 48 true (.t 29) (.t 30)),none⟩,
    ⟨(some 7),.op (.mov (.t 31)),none⟩]))))
  (.reg false [⟨(some 16),.op (.mov (.t 8)),none⟩,
    ⟨(some 17),.op (.bin .add (.t 16) (.c (.i .i64 1))),none⟩,
    ⟨(some 8),.op (.mov (.t 17)),none⟩]))))))
  (.seq (.reg false [⟨(some 32),.op (.loadN 2 (.t 6)),none⟩,
    ⟨(some 33),.op (.mov (.t 7)),none⟩,
    ⟨none,.op (.store 2 (.t 4) (.t 32)),none⟩,
    ⟨(some 5),.op (.mov (.t 33)),none⟩])
  (.ret)))))⟩
theorem fold16 {g1:Nat} {E:List UInt8 → List (List UInt8) × Int} (hc:chkFn P f (ir_vestibuleref16_Fold g1) = true) (hE:ExpOk E) (h1:cStepR E P g1):cFold E P f:=by
  intro l fl hl hv
  refine Pure.mk hc (by simp [clos,clo,rS_clos]) ?_
  simp only [ir_vestibuleref16_Fold,argsT,H0,mkT,mkH,trL,List.length_cons,List.length_nil,Nat.reduceAdd,Nat.zero_add]
  simp only [↓vS,cvF_pc,vP,shb,shv,shvs,she_nil,she_cons,vC,vQ,not_false_eq_true,Nat.reduceEqDiff,↓reduceIte,eq_self,Nat.reduceAdd,Nat.reduceMul,Nat.reduceSub,Nat.reduceLeDiff,Nat.reduceLT,defd,cellsOf,wr,packR,Int.reduceLE,Int.reduceLT,Int.reduceEq,Int.cast_ofNat_Int,Int.reduceToNat]
  refine SL.loop (α:=Nat) (fun j=>[(0,.fz l.length (rS l)),(1,.b fl),(4,.ptr 0 0),(6,.ptr 1 0),(7,.own 2 ((l.take j).foldl (foldS E fl) (⟨0,[]⟩,[])).2.length),(8,.i .i64 j)])
    (fun j=>[.cells 0 true false [.i .u8 0,.nils],.cells 0 true false (cList ((l.take j).foldl (foldS E fl) (⟨0,[]⟩,[])).1),.cells 4 true true (rN ((l.take j).foldl (foldS E fl) (⟨0,[]⟩,[])).2)])
    (fun j=>j ≤ l.length) (fun j=>l.length - j) 0 [0,1,2] ?_ ?_ ?_ rfl ?_ ?_
  · simp [vW,bw_map,mapAt_map,mapClo_it,mapClo_nil,mapClo_cons,vP,vZ,Tr.get_set,rS_clos]
  · simp [vW,bw_map,mapAt_map,mapClo_it,mapClo_nil,mapClo_cons,vP,vZ,Tr.get_set,cList,nvs_self,rN_nil,rC_nil]
  · simp
  · exact Nat.zero_le _
  rintro j hj G ih
  obtain ⟨k1,k2,k3⟩:=foldS_ok hE fl (l.take j) (⟨0,[]⟩,[]) rfl (Int.le_refl 0) (fun v hx=>hv v (List.mem_of_mem_take hx))
  have k4:=may_len k1
  simp only [List.length_take,List.length_nil,Nat.zero_add] at k3
  generalize hr:(l.take j).foldl (foldS E fl) (⟨0,[]⟩,[]) = r at k1 k2 k3 k4 ih ⊢
  simp only [argsT,H0,mkT,mkH,trL,List.length_cons,List.length_nil,Nat.reduceAdd,Nat.zero_add,cList]
  by_cases hlt:j < l.length
  · have hx:(rS l)[j]? = some (.s l[j]):=by rw [rS_get,List.getElem?_eq_getElem hlt]; rfl
    have hwj:IntKind.wrap .i64 ((j:Int) + 1) = ((j + 1:Nat):Int):=by rw [wrap64 (by omega) (by omega)]; omega
    have hnext:(l.take (j + 1)).foldl (foldS E fl) (⟨0,[]⟩,[]) = foldS E fl r l[j]:=by
      rw [List.take_add_one,List.getElem?_eq_getElem hlt,List.foldl_append,hr]; rfl
    have ih2:=ih (j + 1)
    rw [hnext] at ih2
    have hvj:=hv l[j] (List.getElem_mem hlt)
    generalize l[j] = v at hx hnext hvj ih2
    have k5:=stepM_len (E:=E) r.1 v fl
    simp only [↓vS,cvF_pc,vP,shb,shv,shvs,she_nil,she_cons,vC,vQ,not_false_eq_true,Nat.reduceEqDiff,↓reduceIte,eq_self,Nat.reduceAdd,Nat.reduceMul,Nat.reduceSub,Nat.reduceLeDiff,Nat.reduceLT,defd,cellsOf,wr,packR,Int.reduceLE,Int.reduceLT,Int.reduceEq,Int.cast_ofNat_Int,Int.reduceToNat,hlt]
    refine VD_pc ?_
    simp only [↓vS,cvF_pc,vP,shb,shv,shvs,she_nil,she_cons,vC,vQ,not_false_eq_true,Nat.reduceEqDiff,↓reduceIte,eq_self,Nat.reduceAdd,Nat.reduceMul,Nat.reduceSub,Nat.reduceLeDiff,Nat.reduceLT,defd,cellsOf,wr,packR,Int.reduceLE,Int.reduceLT,Int.reduceEq,Int.cast_ofNat_Int,Int.reduceToNat,hlt,hx,Nat.mul_one]
    refine (h1 r.1 v fl (by omega) hvj k2 (may_rng k1)).pc ?_
    simp only [foldS] at ih2
    generalize stepM E r.1 v fl = R at k5 ih2 ⊢
    have hr1:r.2.length + R.2.length ≤ roomB:=by simp only [roomB]; omega
    have hr2:(r.2.length + R.2.length) * 48 ≤ roomB:=by simp only [roomB]; omega
    simp (decide:=true) only [↓vS,cvF_pc,vP,shb,shv,shvs,she_nil,she_cons,vC,vQ,not_false_eq_true,Nat.reduceEqDiff,↓reduceIte,eq_self,Nat.reduceAdd,Nat.reduceMul,Nat.reduceSub,Nat.reduceLeDiff,Nat.reduceLT,defd,cellsOf,wr,packR,Int.reduceLE,Int.reduceLT,Int.reduceEq,Int.cast_ofNat_Int,Int.reduceToNat,cList,hr1,hr2,rN_len,rN_take,List.take_length,rN_app,rN_ok,hwj]
    refine ih2 (by omega) (by omega) _ _ (Wk.mk _ _ [0,1,4] ?_ ?_ ?_ rfl)
    · simp [vW,bw_map,mapAt_map,mapClo_it,mapClo_nil,mapClo_cons,vP,vZ,Tr.get_set,rS_clos]
    · simp [vW,bw_map,mapAt_map,mapClo_it,mapClo_nil,mapClo_cons,vP,vZ,Tr.get_set,cList,nvs_self,rN_clos,rC_clos]
    · simp
  · have hjl:l.take j = l:=List.take_of_length_le (by omega)
    rw [hjl] at hr
    have hR:foldM E l fl = r:=hr
    rw [hR]
    simp only [↓vS,cvF_pc,vP,shb,shv,shvs,she_nil,she_cons,vC,vQ,not_false_eq_true,Nat.reduceEqDiff,↓reduceIte,eq_self,Nat.reduceAdd,Nat.reduceMul,Nat.reduceSub,Nat.reduceLeDiff,Nat.reduceLT,defd,cellsOf,wr,packR,Int.reduceLE,Int.reduceLT,Int.reduceEq,Int.cast_ofNat_Int,Int.reduceToNat,hlt]
    simp [vZ,vP,Tr.get_set,cList,frzs_self rC_clos,frzs_self rN_clos]
    intro h0; rw [h0]; rfl
def ir_vestibulelaw16_FoldFolds (f_fold_Fold f_vestibuleref16_Fold f_vestibuleref16_Same f_vestibulelaw13_SameNotes f_vestibulelaw16_awake:Nat):IFn:=⟨[.tmp 4],
  .seq (.reg false [⟨(some 4),.op (.mov (.c (.b false))),none⟩])
  (.seq (.seq (.reg false [⟨(some 10),.op (.mov (.t 0)),none⟩,
    ⟨(some 11),.op (.len false (.t 10)),none⟩,
    ⟨(some 12),.op (.bin .gtr (.t 11) (.c (.i .i64 20))),none⟩])
  (.cond (.t 12) (.seq (.reg false [⟨(some 4),.op (.mov (.c (.b true))),none⟩])
  (.ret)) (.skip)))
  (.seq (.seq (.reg false [⟨(some 5),.op (.mov (.c (.i .i64 0))),none⟩])
  (.blk 0 (.loop (.seq (.seq (.reg false [⟨(some 13),.op (.mov (.t 5)),none⟩,
    ⟨(some 14),.op (.mov (.t 0)),none⟩,
    ⟨(some 15),.op (.len false (.t 14)),none⟩,
    ⟨(some 16),.op (.bin .lss (.t 13) (.t 15)),none⟩])
  (.cond (.t 16) (.skip) (.exit 0)))
  (.seq (.blk 1 (.seq (.reg false [⟨(some 19),.op (.mov (.t 0)),none⟩,
    ⟨(some 20),.op (.mov (.t 5)),none⟩,
    ⟨(some 21),.op (.iAddrS 1 (.t 19) (.t 20)),none⟩,
    ⟨(some 22),.op (.load1 (.t 21)),none⟩,
    ⟨(some 23),.op (.len true (.t 22)),none⟩,
    ⟨(some 24),.op (.bin .gtr (.t 23) (.c (.i .i64 300))),none⟩])
  (.cond (.t 24) (.seq (.reg false [⟨(some 4),.op (.mov (.c (.b true))),none⟩])
  (.ret)) (.skip))))
  (.reg false [⟨(some 17),.op (.mov (.t 5)),none⟩,
    ⟨(some 18),.op (.bin .add (.t 17) (.c (.i .i64 1))),none⟩,
    ⟨(some 5),.op (.mov (.t 18)),none⟩]))))))
  (.seq (.reg false [⟨(some 26),.op (.mov (.t 0)),none⟩,
    ⟨(some 27),.op (.mov (.t 1)),none⟩,
    ⟨(some 28),.callF f_fold_Fold [(.t 26),(.t 27)],none⟩,
    ⟨(some 25),.op (.mov (.t 28)),none⟩,
    ⟨(some 29),.op (.ext (.t 25) 0),none⟩,
    ⟨(some 30),.op (.ext (.t 25) 1),none⟩,
    ⟨(some 6),.op (.alloc [.i .u8 0,.nils]),none⟩,
    ⟨none,.op (.store 2 (.t 6) (.t 29)),none⟩,
    ⟨(some 7),.op (.mov (.t 30)),none⟩])
  (.seq (.reg false [⟨(some 32),.op (.mov (.t 0)),none⟩,
    ⟨(some 33),.op (.mov (.t 1)),none⟩,
    ⟨(some 34),.callF f_vestibuleref16_Fold [(.t 32),(.t 33)],none⟩,
    ⟨(some 31),.op (.mov (.t 34)),none⟩,
    ⟨(some 35),.op (.ext (.t 31) 0),none⟩,
    ⟨(some 36),.op (.ext (.t 31) 1),none⟩,
    ⟨(some 8),.op (.alloc [.i .u8 0,.nils]),none⟩,
    ⟨none,.op (.store 2 (.t 8) (.t 35)),none⟩,
    ⟨(some 9),.op (.mov (.t 36)),none⟩])
  (.seq (.reg false [⟨(some 37),.op (.loadN 2 (.t 6)),none⟩,
    ⟨(some 38),.op (.loadN 2 (.t 8)),none⟩,
    ⟨(some 39),.callF f_vestibuleref16_Same [(.t 37),(.t 38)],none⟩,
    ⟨(some 40),.op (.mov (.t 39)),none⟩,
    ⟨(some 41),.op (.mov (.t 7)),(some (40,true))⟩,
    ⟨(some 42),.op (.mov (.t 9)),(some (40,true))⟩,
    ⟨(some 43),.callF f_vestibulelaw13_SameNotes [(.t 41),(.t 42)],(some (40,true))⟩,
    ⟨(some 44),.op (.pick (.t 40) (.t 43) (.c (.b false))),none⟩,
    ⟨(some 45),.op (.mov (.t 44)),none⟩,
    ⟨(some 46),.callF f_vestibulelaw16_awake [],(some (45,true))⟩,
    ⟨(some 47),.op (.pick (.t 45) (.t 46) (.c (.b false))),none⟩,
    ⟨(some 4),.op (.mov (.t 47)),none⟩])
  (.ret))))))⟩
theorem foldFolds {g1 g2 g3 g4 g5:Nat} {E:List UInt8 → List (List UInt8) × Int} (hc:chkFn P f (ir_vestibulelaw16_FoldFolds g1 g2 g3 g4 g5) = true) (hE:ExpOk E) (h1:cFold E P g1) (h2:cFold E P g2) (h3:∀ l:GList,l.calls.length ≤ 100000 → Pure P g3 [.agg (cList l),.agg (cList l)] (.b true)) (h4:cSame13 P g4) (h5:Pure P g5 [] (.b true))
    (l:List (List UInt8)) (fl:Bool):Pure P f [.fz l.length (rS l),.b fl] (.b true):=by
  refine Pure.mk hc (by simp [clos,clo,rS_clos]) ?_
  simp only [ir_vestibulelaw16_FoldFolds,argsT,H0,mkT,mkH,trL,List.length_cons,List.length_nil,Nat.reduceAdd,Nat.zero_add]
  by_cases hl:(20:Int) < l.length
  · simp only [↓vS,cvF_pc,vP,shb,shv,shvs,she_nil,she_cons,vC,vQ,not_false_eq_true,Nat.reduceEqDiff,↓reduceIte,eq_self,Nat.reduceAdd,Nat.reduceMul,Nat.reduceSub,Nat.reduceLeDiff,Nat.reduceLT,defd,cellsOf,wr,packR,Int.reduceLE,Int.reduceLT,Int.reduceEq,Int.cast_ofNat_Int,Int.reduceToNat,hl]
    simp [vZ]
  simp only [↓vS,cvF_pc,vP,shb,shv,shvs,she_nil,she_cons,vC,vQ,not_false_eq_true,Nat.reduceEqDiff,↓reduceIte,eq_self,Nat.reduceAdd,Nat.reduceMul,Nat.reduceSub,Nat.reduceLeDiff,Nat.reduceLT,defd,cellsOf,wr,packR,Int.reduceLE,Int.reduceLT,Int.reduceEq,Int.cast_ofNat_Int,Int.reduceToNat,hl]
  refine SL.loop (α:=Nat) (fun j=>[(0,.fz l.length (rS l)),(1,.b fl),(5,.i .i64 j)]) (fun _=>[]) (fun j=>j ≤ l.length ∧ ∀ v ∈ l.take j,v.length ≤ 300) (fun j=>l.length - j) 0 [] ?_ ?_ ?_ rfl ?_ ?_
  · simp [vW,bw_map,mapAt_map,mapClo_it,mapClo_nil,mapClo_cons,vP,vZ,Tr.get_set,rS_clos]
  · trivial
  · simp
  · exact ⟨Nat.zero_le _,fun v hx=>by cases hx⟩
  rintro j ⟨hj,hI⟩ G ih
  simp only [argsT,H0,mkT,mkH,trL,List.length_cons,List.length_nil,Nat.reduceAdd,Nat.zero_add]
  by_cases hlt:j < l.length
  · have hx:(rS l)[j]? = some (.s l[j]):=by rw [rS_get,List.getElem?_eq_getElem hlt]; rfl
    have hwj:IntKind.wrap .i64 ((j:Int) + 1) = ((j + 1:Nat):Int):=by rw [wrap64 (by omega) (by omega)]; omega
    have ht:l.take (j + 1) = l.take j ++ [l[j]]:=by rw [List.take_add_one,List.getElem?_eq_getElem hlt]; rfl
    generalize l[j] = v at hx ht
    by_cases h3:(300:Int) < v.length
    · simp only [↓vS,cvF_pc,vP,shb,shv,shvs,she_nil,she_cons,vC,vQ,not_false_eq_true,Nat.reduceEqDiff,↓reduceIte,eq_self,Nat.reduceAdd,Nat.reduceMul,Nat.reduceSub,Nat.reduceLeDiff,Nat.reduceLT,defd,cellsOf,wr,packR,Int.reduceLE,Int.reduceLT,Int.reduceEq,Int.cast_ofNat_Int,Int.reduceToNat,hlt,hx,Nat.mul_one,h3]
      simp [vZ]
    · simp only [↓vS,cvF_pc,vP,shb,shv,shvs,she_nil,she_cons,vC,vQ,not_false_eq_true,Nat.reduceEqDiff,↓reduceIte,eq_self,Nat.reduceAdd,Nat.reduceMul,Nat.reduceSub,Nat.reduceLeDiff,Nat.reduceLT,defd,cellsOf,wr,packR,Int.reduceLE,Int.reduceLT,Int.reduceEq,Int.cast_ofNat_Int,Int.reduceToNat,hlt,hx,Nat.mul_one,h3,hwj]
      refine ih (j + 1) ⟨by omega,?_⟩ (by omega) _ _ (Wk.mk _ _ [] ?_ ?_ ?_ rfl)
      · intro q hq
        rw [ht] at hq
        rcases List.mem_append.1 hq with h | h
        · exact hI q h
        · rw [List.mem_singleton.1 h]; omega
      · simp [vW,bw_map,mapAt_map,mapClo_it,mapClo_nil,mapClo_cons,vP,vZ,Tr.get_set,rS_clos]
      · trivial
      · simp
  · have hall:∀ v ∈ l,v.length ≤ 1000:=by
      intro v hv
      have:=hI v (by rw [List.take_of_length_le (by omega)]; exact hv)
      omega
    obtain ⟨k1,k2,k3⟩:=foldS_ok hE fl l (⟨0,[]⟩,[]) rfl (Int.le_refl 0) hall
    have k4:=may_len k1
    simp only [List.length_nil,Nat.zero_add] at k3
    simp only [↓vS,cvF_pc,vP,shb,shv,shvs,she_nil,she_cons,vC,vQ,not_false_eq_true,Nat.reduceEqDiff,↓reduceIte,eq_self,Nat.reduceAdd,Nat.reduceMul,Nat.reduceSub,Nat.reduceLeDiff,Nat.reduceLT,defd,cellsOf,wr,packR,Int.reduceLE,Int.reduceLT,Int.reduceEq,Int.cast_ofNat_Int,Int.reduceToNat,hlt]
    refine (h1 l fl (by omega) hall).sc ?_
    simp only [↓vS,cvF_pc,vP,shb,shv,shvs,she_nil,she_cons,vC,vQ,not_false_eq_true,Nat.reduceEqDiff,↓reduceIte,eq_self,Nat.reduceAdd,Nat.reduceMul,Nat.reduceSub,Nat.reduceLeDiff,Nat.reduceLT,defd,cellsOf,wr,packR,Int.reduceLE,Int.reduceLT,Int.reduceEq,Int.cast_ofNat_Int,Int.reduceToNat,cList]
    refine (h2 l fl (by omega) hall).sc ?_
    have k5:(foldM E l fl).1.calls.length ≤ 100000:=Nat.le_trans k4 (by decide)
    have k6:(foldM E l fl).2.length ≤ 100000:=Nat.le_trans k3 (by omega)
    generalize foldM E l fl = R at k5 k6
    simp only [↓vS,cvF_pc,vP,shb,shv,shvs,she_nil,she_cons,vC,vQ,not_false_eq_true,Nat.reduceEqDiff,↓reduceIte,eq_self,Nat.reduceAdd,Nat.reduceMul,Nat.reduceSub,Nat.reduceLeDiff,Nat.reduceLT,defd,cellsOf,wr,packR,Int.reduceLE,Int.reduceLT,Int.reduceEq,Int.cast_ofNat_Int,Int.reduceToNat,cList]
    refine (h3 R.1 k5).sc ?_
    simp only [↓vS,cvF_pc,vP,shb,shv,shvs,she_nil,she_cons,vC,vQ,not_false_eq_true,Nat.reduceEqDiff,↓reduceIte,eq_self,Nat.reduceAdd,Nat.reduceMul,Nat.reduceSub,Nat.reduceLeDiff,Nat.reduceLT,defd,cellsOf,wr,packR,Int.reduceLE,Int.reduceLT,Int.reduceEq,Int.cast_ofNat_Int,Int.reduceToNat]
    refine (h4 R.2 k6).sc ?_
    simp only [↓vS,cvF_pc,vP,shb,shv,shvs,she_nil,she_cons,vC,vQ,not_false_eq_true,Nat.reduceEqDiff,↓reduceIte,eq_self,Nat.reduceAdd,Nat.reduceMul,Nat.reduceSub,Nat.reduceLeDiff,Nat.reduceLT,defd,cellsOf,wr,packR,Int.reduceLE,Int.reduceLT,Int.reduceEq,Int.cast_ofNat_Int,Int.reduceToNat]
    refine h5.sc ?_
    simp only [↓vS,cvF_pc,vP,shb,shv,shvs,she_nil,she_cons,vC,vQ,not_false_eq_true,Nat.reduceEqDiff,↓reduceIte,eq_self,Nat.reduceAdd,Nat.reduceMul,Nat.reduceSub,Nat.reduceLeDiff,Nat.reduceLT,defd,cellsOf,wr,packR,Int.reduceLE,Int.reduceLT,Int.reduceEq,Int.cast_ofNat_Int,Int.reduceToNat]
    simp [vZ]
end Go.Kc
end
section
/- What the document's groups answer. Condition: the functions' texts are these. -/
namespace Go.Kc
variable {P:Program} {f:Nat}
def ir_vestibuleref11_Members (f_vestibuleref11_Table:Nat):IFn:=⟨[.tmp 2],
  .seq (.reg false [⟨(some 2),.op (.mov (.c (.nils))),none⟩])
  (.seq (.reg false [⟨(some 5),.callF f_vestibuleref11_Table [],none⟩,
    ⟨(some 3),.op (.mov (.t 5)),none⟩])
  (.seq (.seq (.reg false [⟨(some 4),.op (.mov (.c (.i .i64 0))),none⟩])
  (.blk 0 (.loop (.seq (.seq (.reg false [⟨(some 6),.op (.mov (.t 4)),none⟩,
    ⟨(some 7),.op (.mov (.t 3)),none⟩,
    ⟨(some 8),.op (.len false (.t 7)),none⟩,
    ⟨(some 9),.op (.bin .lss (.t 6) (.t 8)),none⟩])
  (.cond (.t 9) (.skip) (.exit 0)))
  (.seq (.blk 1 (.seq (.reg false [⟨(some 12),.op (.mov (.t 3)),none⟩,
    ⟨(some 13),.op (.mov (.t 4)),none⟩,
    ⟨(some 14),.op (.iAddrS 2 (.t 12) (.t 13)),none⟩,
    ⟨(some 15),.op (.fAddr 0 (.t 14)),none⟩,
    ⟨(some 16),.op (.load1 (.t 15)),none⟩,
    ⟨(some 17),.op (.mov (.t 0)),none⟩,
    ⟨(some 18),.op (.bin .eql (.t 16) (.t 17)),none⟩])
  (.cond (.t 18) (.seq (.reg false [⟨(some 19),.op (.mov (.t 3)),none⟩,
    ⟨(some 20),.op (.mov (.t 4)),none⟩,
    ⟨(some 21),.op (.iAddrS 2 (.t 19) (.t 20)),none⟩,
    ⟨(some 22),.op (.fAddr 1 (.t 21)),none⟩,
    ⟨(some 23),.op (.load1 (.t 22)),none⟩,
    ⟨(some 2),.op (.mov (.t 23)),none⟩])
  (.ret)) (.skip))))
  (.reg false [⟨(some 10),.op (.mov (.t 4)),none⟩,
    ⟨(some 11),.op (.bin .add (.t 10) (.c (.i .i64 1))),none⟩,
    ⟨(some 4),.op (.mov (.t 11)),none⟩]))))))
  (.seq (.reg false [⟨(some 2),.op (.mov (.c (.nils))),none⟩])
  (.ret))))⟩
theorem members11_none {g1:Nat} (hc:chkFn P f (ir_vestibuleref11_Members g1) = true) (h1:cGroups P g1) (s:List UInt8) (hs:∀ r ∈ tab_groups,r.1 ≠ s):Pure P f [.s s] .nils:=by
  refine Pure.mk hc rfl ?_
  simp only [ir_vestibuleref11_Members,argsT,H0,mkT,mkH,trL,List.length_cons,List.length_nil,Nat.reduceAdd,Nat.zero_add]
  simp only [↓vS,cvF_pc,vP,shb,shv,shvs,she_nil,she_cons,vC,vQ,not_false_eq_true,Nat.reduceEqDiff,↓reduceIte,eq_self,Nat.reduceAdd,Nat.reduceMul,Nat.reduceSub,Nat.reduceLeDiff,Nat.reduceLT,defd,cellsOf,wr,packR,Int.reduceLE,Int.reduceLT,Int.reduceEq,Int.cast_ofNat_Int,Int.reduceToNat]
  refine h1.sc ?_
  have hlen:(tab_groups.flatMap rowG).length = 36:=by decide
  have hcl:clos (tab_groups.flatMap rowG) = true:=clos_flat fun _=>rfl
  have h18:tab_groups.length = 18:=by decide
  have hget:∀ j (h:j < 18),∃ r ∈ tab_groups,(tab_groups.flatMap rowG)[j * 2]? = some (.s r.1):=by
    intro j h
    have hx:tab_groups[j]? = some (tab_groups[j]'(by omega)):=List.getElem?_eq_getElem (by omega)
    exact ⟨_,List.getElem_mem _,flat_get (f:=rowG) (m:=2) rowG_len hx (i:=0) (by decide)⟩
  generalize hT:tab_groups.flatMap rowG = T at hlen hcl hget
  simp only [↓vS,cvF_pc,vP,shb,shv,shvs,she_nil,she_cons,vC,vQ,not_false_eq_true,Nat.reduceEqDiff,↓reduceIte,eq_self,Nat.reduceAdd,Nat.reduceMul,Nat.reduceSub,Nat.reduceLeDiff,Nat.reduceLT,defd,cellsOf,wr,packR,Int.reduceLE,Int.reduceLT,Int.reduceEq,Int.cast_ofNat_Int,Int.reduceToNat]
  refine SL.loop (α:=Nat) (fun j=>[(0,.s s),(2,.nils),(3,.fz 18 T),(4,.i .i64 j)]) (fun _=>[]) (fun j=>j ≤ 18) (fun j=>18 - j) 0 [] ?_ ?_ ?_ rfl ?_ ?_
  · simp [vW,bw_map,mapAt_map,mapClo_it,mapClo_nil,mapClo_cons,vP,vZ,Tr.get_set,hcl]
  · trivial
  · simp
  · exact Nat.zero_le _
  rintro j hj G ih
  simp only [argsT,H0,mkT,mkH,trL,List.length_cons,List.length_nil,Nat.reduceAdd,Nat.zero_add]
  by_cases hlt:j < 18
  · have hw:IntKind.wrap .i64 ((j:Int) + 1) = ((j + 1:Nat):Int):=by rw [wrap64 (by omega) (by omega)]; omega
    have hlt':(j:Int) < 18:=by omega
    obtain ⟨r,hr,he⟩:=hget j hlt
    have hne:¬ r.1 = s:=hs r hr
    simp only [↓vS,cvF_pc,vP,shb,shv,shvs,she_nil,she_cons,vC,vQ,not_false_eq_true,Nat.reduceEqDiff,↓reduceIte,eq_self,Nat.reduceAdd,Nat.reduceMul,Nat.reduceSub,Nat.reduceLeDiff,Nat.reduceLT,defd,cellsOf,wr,packR,Int.reduceLE,Int.reduceLT,Int.reduceEq,Int.cast_ofNat_Int,Int.reduceToNat,hlt,hlt',he,hne,hw]
    refine ih (j + 1) (by omega) (by omega) _ _ (Wk.mk _ _ [] ?_ ?_ ?_ rfl)
    · simp [vW,bw_map,mapAt_map,mapClo_it,mapClo_nil,mapClo_cons,vP,vZ,Tr.get_set,hcl]
    · trivial
    · simp
  · have hlt':¬ (j:Int) < 18:=by omega
    simp only [↓vS,cvF_pc,vP,shb,shv,shvs,she_nil,she_cons,vC,vQ,not_false_eq_true,Nat.reduceEqDiff,↓reduceIte,eq_self,Nat.reduceAdd,Nat.reduceMul,Nat.reduceSub,Nat.reduceLeDiff,Nat.reduceLT,defd,cellsOf,wr,packR,Int.reduceLE,Int.reduceLT,Int.reduceEq,Int.cast_ofNat_Int,Int.reduceToNat,hlt']
    simp [vZ]
def ir_vestibuleref11_Expand (f_vestibuleref11_Members f_vestibuleref11_Deep f_vestibuleref11_Put:Nat):IFn:=⟨[.tmp 2,.tmp 3],
  .seq (.reg false [⟨(some 2),.op (.mov (.c (.nils))),none⟩,
    ⟨(some 3),.op (.mov (.c (.i .i64 0))),none⟩])
  (.seq (.seq (.reg false [⟨(some 8),.op (.mov (.t 0)),none⟩,
    ⟨(some 9),.callF f_vestibuleref11_Members [(.t 8)],none⟩,
    ⟨(some 10),.op (.len false (.t 9)),none⟩,
    ⟨(some 11),.op (.bin .eql (.t 10) (.c (.i .i64 0))),none⟩])
  (.cond (.t 11) (.seq (.reg false [⟨(some 2),.op (.mov (.c (.nils))),none⟩,
    ⟨(some 3),.op (.mov (.c (.i .i64 110))),none⟩])
  (.ret)) (.skip)))
  (.seq (.seq (.reg false [⟨(some 12),.op (.mov (.t 0)),none⟩,
    ⟨(some 13),.callF f_vestibuleref11_Deep [(.t 12)],none⟩,
    ⟨(some 14),.op (.bin .gtr (.t 13) (.c (.i .i64 4))),none⟩])
  (.cond (.t 14) (.seq (.reg false [⟨(some 2),.op (.mov (.c (.nils))),none⟩,
    ⟨(some 3),.op (.mov (.c (.i .i64 111))),none⟩])
  (.ret)) (.skip)))
  (.seq (.reg false [⟨(some 4),.op (.mov (.c (.nils))),none⟩])
  (.seq (.reg false [⟨(some 15),.op (.mov (.t 0)),none⟩,
    ⟨(some 16),.op (.buildS 1 [.s []] [(0,1,(.t 15))]),none⟩,
    ⟨(some 5),.op (.mov (.t 16)),none⟩])
  (.seq (.blk 0 (.loop (.seq (.seq (.reg false [⟨(some 17),.op (.mov (.t 5)),none⟩,
    ⟨(some 18),.op (.len false (.t 17)),none⟩,
    ⟨(some 19),.op (.bin .gtr (.t 18) (.c (.i .i64 0))),none⟩])
  (.cond (.t 19) (.skip) (.exit 0)))
  (.blk 1 (.seq (.reg false [⟨(some 20),.op (.mov (.t 5)),none⟩,
    ⟨(some 21),.op (.iAddrS 1 (.t 20) (.c (.i .i64 0))),none⟩,
    ⟨(some 22),.op (.load1 (.t 21)),none⟩,
    ⟨(some 23),.callF f_vestibuleref11_Members [(.t 22)],none⟩,
    ⟨(some 6),.op (.mov (.t 23)),none⟩])
  (.seq (.reg false [⟨(some 24),.op (.mov (.t 5)),none⟩,
    ⟨(some 25),.op (.slcS 1 (.t 24) (some (.c (.i .i64 1))) none none),none⟩,
    ⟨(some 5),.op (.mov (.t 25)),none⟩])
  (.seq (.reg false [⟨(some 7),.op (.mov (.c (.i .i64 0))),none⟩])
  (.blk 2 (.loop (.seq (.seq (.reg false [⟨(some 26),.op (.mov (.t 7)),none⟩,
    ⟨(some 27),.op (.mov (.t 6)),none⟩,
    ⟨(some 28),.op (.len false (.t 27)),none⟩,
    ⟨(some 29),.op (.bin .lss (.t 26) (.t 28)),none⟩])
  (.cond (.t 29) (.skip) (.exit 2)))
  (.seq (.blk 3 (.seq (.reg false [⟨(some 32),.op (.mov (.t 6)),none⟩,
    ⟨(some 33),.op (.mov (.t 7)),none⟩,
    ⟨(some 34),.op (.iAddrS 1 (.t 32) (.t 33)),none⟩,
    ⟨(some 35),.op (.load1 (.t 34)),none⟩,
    ⟨(some 36),.callF f_vestibuleref11_Members [(.t 35)],none⟩,
    ⟨(some 37),.op (.len false (.t 36)),none⟩,
    ⟨(some 38),.op (.bin .gtr (.t 37) (.c (.i .i64 0))),none⟩])
  (.cond (.t 38) (.reg false [⟨(some 39),.op (.mov (.t 5)),none⟩,
    ⟨(some 40),.op (.mov (.t 6)),none⟩,
    ⟨(some 41),.op (.mov (.t 7)),none⟩,
    ⟨(some 42),.op (.iAddrS 1 (.t 40) (.t 41)),none⟩,
    ⟨(some 43),.op (.load1 (.t 42)),none⟩,
    ⟨(some 44),.op (.buildS 1 [.s []] [(0,1,(.t 43))]),none⟩,
    ⟨(some 45),.op (.app 1 16 true (.t 39) (.t 44)),none⟩,
    ⟨(some 5),.op (.mov (.t 45)),none⟩]) (.reg false [⟨(some 46),.op (.mov (.t 4)),none⟩,
    ⟨(some 47),.op (.mov (.t 6)),none⟩,
    ⟨(some 48),.op (.mov (.t 7)),none⟩,
    ⟨(some 49),.op (.iAddrS 1 (.t 47) (.t 48)),none⟩,
    ⟨(some 50),.op (.load1 (.t 49)),none⟩,
    ⟨(some 51),.callF f_vestibuleref11_Put [(.t 46),(.t 50)],none⟩,
    ⟨(some 4),.op (.mov (.t 51)),none⟩]))))
  (.reg false [⟨(some 30),.op (.mov (.t 7)),none⟩,
    ⟨(some 31),.op (.bin .add (.t 30) (.c (.i .i64 1))),none⟩,
    ⟨(some 7),.op (.mov (.t 31)),none⟩]))))))))))))
  (.seq (.reg false [⟨(some 52),.op (.mov (.t 4)),none⟩,
    ⟨(some 2),.op (.mov (.t 52)),none⟩,
    ⟨(some 3),.op (.mov (.c (.i .i64 0))),none⟩])
  (.ret)))))))⟩
theorem expand11 {g1 g2 g3 k1:Nat} (hc:chkFn P f (ir_vestibuleref11_Expand g1 g2 g3) = true) (hm:chkFn P g1 (ir_vestibuleref11_Members k1) = true) (ht:cGroups P k1)
    (hrun:∀ r ∈ tab_exp,Pure P f [.s r.1] (.tup [.fz r.2.1.length (rS r.2.1),.i .i64 r.2.2])):cExp expG P f:=by
  intro s
  unfold expG
  cases hf:tab_exp.find? (fun r=>decide (r.1 = s)) with
  | none =>
    have hn:=members11_none hm ht s (fun r hr he=>by
      have h1:r.1 ∈ tab_exp.map (·.1):=by rw [exp_names]; exact List.mem_map.2 ⟨r,hr,rfl⟩
      obtain ⟨x,hx,hxe⟩:=List.mem_map.1 h1
      have:=List.find?_eq_none.1 hf x hx
      simp [hxe,he] at this)
    refine Pure.mk hc rfl ?_
    simp only [ir_vestibuleref11_Expand,argsT,H0,mkT,mkH,trL,List.length_cons,List.length_nil,Nat.reduceAdd,Nat.zero_add]
    simp only [↓vS,cvF_pc,vP,shb,shv,shvs,she_nil,she_cons,vC,vQ,not_false_eq_true,Nat.reduceEqDiff,↓reduceIte,eq_self,Nat.reduceAdd,Nat.reduceMul,Nat.reduceSub,Nat.reduceLeDiff,Nat.reduceLT,defd,cellsOf,wr,packR,Int.reduceLE,Int.reduceLT,Int.reduceEq,Int.cast_ofNat_Int,Int.reduceToNat]
    refine hn.sc ?_
    simp only [↓vS,cvF_pc,vP,shb,shv,shvs,she_nil,she_cons,vC,vQ,not_false_eq_true,Nat.reduceEqDiff,↓reduceIte,eq_self,Nat.reduceAdd,Nat.reduceMul,Nat.reduceSub,Nat.reduceLeDiff,Nat.reduceLT,defd,cellsOf,wr,packR,Int.reduceLE,Int.reduceLT,Int.reduceEq,Int.cast_ofNat_Int,Int.reduceToNat]
    simp [vZ,rS]
  | some r =>
    have hr:=List.mem_of_find?_eq_some hf
    have he:=List.find?_some hf
    have he':r.1 = s:=of_decide_eq_true he
    rw [← he']
    exact hrun r hr
end Go.Kc
end
section
/- What fold.Put and fold.Take answer, in rows of one's own. Condition: the functions' texts are these. -/
namespace Go.Kc
variable {P:Program} {f:Nat}
theorem rC_flatO:∀ {l:List GCall},flatOs (rC l) = true
  | []=>rfl
  | c :: l=>by rw [rC_cons]; simp [flatOs,flatO,rC_flatO (l:=l)]
theorem take_own {g1 g2 g3 g4:Nat} (hc:chkFn P f (ir_fold_Take g1 g2 g3 g4) = true) (h1:cCop P g1) (h2:cMay P g2) (h3:∀ s c,Pure P g3 [.agg (cCall c),.pf [.s s] 0] (.b (decide (c.name = s)))) (h4:cDelete_call P g4) (l:GList) (s:List UInt8) (hl:l.calls.length ≤ 100000) :
    OwnL P f [.agg (cList l),.s s] (.agg [.i .u8 (takeM l s).mode,.own 0 (takeM l s).calls.length]) [.cells 2 true true (rC (takeM l s).calls)]:=by
  refine OwnL.mk hc rfl (by simp [flatB,rC_flatO]) ?_
  simp only [ir_fold_Take,cList,argsT,H0,mkT,mkH,trL,List.length_cons,List.length_nil,Nat.reduceAdd,Nat.zero_add]
  simp only [↓vS,cvF_pc,vP,shb,shv,shvs,she_nil,she_cons,vC,vQ,not_false_eq_true,Nat.reduceEqDiff,↓reduceIte,eq_self,Nat.reduceAdd,Nat.reduceMul,Nat.reduceSub,Nat.reduceLeDiff,Nat.reduceLT,defd,cellsOf,wr,packR,Int.reduceLE,Int.reduceLT,Int.reduceEq,Int.cast_ofNat_Int,Int.reduceToNat]
  refine (h1 l hl).sc ?_
  simp only [pushs_cons,pushs_nil,push_mk,shb,shv,shvs,she_nil,she_cons,List.map_cons,List.map_nil,up_mk,down_mk,Nat.reduceAdd,Nat.zero_add]
  simp only [↓vS,cvF_pc,vP,shb,shv,shvs,she_nil,she_cons,vC,vQ,not_false_eq_true,Nat.reduceEqDiff,↓reduceIte,eq_self,Nat.reduceAdd,Nat.reduceMul,Nat.reduceSub,Nat.reduceLeDiff,Nat.reduceLT,defd,cellsOf,wr,packR,Int.reduceLE,Int.reduceLT,Int.reduceEq,Int.cast_ofNat_Int,Int.reduceToNat]
  refine S.weak (Wk.mk [(2,.ptr 0 0),(3,.ptr 1 0),(4,.ptr 2 0)] [.cells 0 true false [.i .u8 l.mode,.own 3 l.calls.length],.cells 0 true false [.s s],.cells 0 true false [.i .u8 0,.nils],.cells 2 true true (rC l.calls)] [0,1,2,3] ?_ ?_ ?_ rfl) ?_
  · simp [vW,bw_map,mapAt_map,mapClo_it,mapClo_nil,mapClo_cons,vP,vZ,Tr.get_set]
  · simp [vW,bw_map,mapAt_map,mapClo_it,mapClo_nil,mapClo_cons,vP,vZ,Tr.get_set,nvs_self,rC_clos,shvs_clo rC_clos]
    try decide
  · simp [vW,bw_map,mapAt_map,mapClo_it,mapClo_nil,mapClo_cons,vP,vZ,Tr.get_set]
  refine S.weak (Wk.freeze 1 0 0 rfl rfl (Nat.zero_le _) (by simp)) ?_
  refine V_sound ?_
  simp only [ir_fold_Take_c2,argsT,H0,mkT,mkH,trL,List.length_cons,List.length_nil,Nat.reduceAdd,Nat.zero_add,fzv,fzvs,fzB,List.map_cons,List.map_nil,List.set_cons_zero,List.set_cons_succ,if_true,fzvs_clo rC_clos]
  simp only [↓vS,cvF_pc,vP,shb,shv,shvs,she_nil,she_cons,vC,vQ,not_false_eq_true,Nat.reduceEqDiff,↓reduceIte,eq_self,Nat.reduceAdd,Nat.reduceMul,Nat.reduceSub,Nat.reduceLeDiff,Nat.reduceLT,defd,cellsOf,wr,packR,Int.reduceLE,Int.reduceLT,Int.reduceEq,Int.cast_ofNat_Int,Int.reduceToNat]
  refine (h2 l hl).lend (vs':=[.agg (cList l)]) ?_ rfl ?_
  · simp [vZ,vP,Tr.get_set,cList,frzs_self rC_clos]
    intro h0; rw [h0]; rfl
  cases hM:mayM l with
  | false =>
    have hw:takeM l s = l:=by unfold takeM; rw [hM]; rfl
    simp only [↓vS,cvF_pc,vP,shb,shv,shvs,she_nil,she_cons,vC,vQ,not_false_eq_true,Nat.reduceEqDiff,↓reduceIte,eq_self,Nat.reduceAdd,Nat.reduceMul,Nat.reduceSub,Nat.reduceLeDiff,Nat.reduceLT,defd,cellsOf,wr,packR,Int.reduceLE,Int.reduceLT,Int.reduceEq,Int.cast_ofNat_Int,Int.reduceToNat]
    rw [hw]
    intro _
    refine ⟨[3],?_⟩
    simp [vW,bw_map,mapAt_map,mapClo_it,mapClo_nil,mapClo_cons,vP,vZ,Tr.get_set,nvs_self,rC_clos]
  | true =>
    have hw:takeM l s = ⟨l.mode,l.calls.filter fun c=>!decide (c.name = s)⟩:=by unfold takeM; rw [hM]; rfl
    simp only [↓vS,cvF_pc,vP,shb,shv,shvs,she_nil,she_cons,vC,vQ,not_false_eq_true,Nat.reduceEqDiff,↓reduceIte,eq_self,Nat.reduceAdd,Nat.reduceMul,Nat.reduceSub,Nat.reduceLeDiff,Nat.reduceLT,defd,cellsOf,wr,packR,Int.reduceLE,Int.reduceLT,Int.reduceEq,Int.cast_ofNat_Int,Int.reduceToNat]
    refine (h4 (fun c=>decide (c.name = s)) g3 [] [.pf [.s s] 0] l.calls rfl rfl (by simp only [roomB]; omega) (fun c _=>h3 s c)).sc (vs:=[.own 0 l.calls.length,.fn g3 [] [.pf [.s s] 0]]) [3] (Lent.of (by decide) ?_) ?_
    · simp [lent_cons,lent_nil,pushs_cons,pushs_nil,push_mk,shb,shv,shvs,bnds,bnd,rnvs,rnv,gAt,vW,bw_map,mapAt_map,mapClo_it,mapClo_nil,mapClo_cons,vP,vZ,Tr.get_set,bnds_clo rC_clos,rnvs_clo rC_clos,shvs_clo rC_clos]
    simp only [backH,List.cons_append,List.nil_append,List.length_cons,List.length_nil,Nat.zero_add,Nat.reduceAdd,List.take_succ_cons,List.take_zero,List.drop_succ_cons,List.drop_zero,List.map_cons,List.map_nil,rnb,rnvs,rnv,gAt,Nat.reduceLT,↓reduceIte,List.getD_cons_zero,List.getD_cons_succ,Nat.reduceSub,puts_cons,puts_nil,pushs_cons,pushs_nil,hput_mk,push_mk,rnvs_clo rC_clos]
    simp only [↓vS,cvF_pc,vP,shb,shv,shvs,she_nil,she_cons,vC,vQ,not_false_eq_true,Nat.reduceEqDiff,↓reduceIte,eq_self,Nat.reduceAdd,Nat.reduceMul,Nat.reduceSub,Nat.reduceLeDiff,Nat.reduceLT,defd,cellsOf,wr,packR,Int.reduceLE,Int.reduceLT,Int.reduceEq,Int.cast_ofNat_Int,Int.reduceToNat]
    rw [hw]
    intro _
    refine ⟨[3],?_⟩
    simp [vW,bw_map,mapAt_map,mapClo_it,mapClo_nil,mapClo_cons,vP,vZ,Tr.get_set,nvs_self,rC_clos]
theorem put_own {g1 g2 g3 g4 g5:Nat} (hc:chkFn P f (ir_fold_Put g1 g2 g3 g4 g5) = true) (h1:cCop P g1) (h2:cMay P g2) (h3:cBsF P g3) (h4:∀ (c:GCall) (s:List UInt8),Pure P g4 [.agg (cCall c),.s s] (.i .i64 (cmpB c.name s))) (h5:cInsert 2 24 P g5) (l:GList) (s:List UInt8) (n:Int) (hl:l.calls.length ≤ 100000) :
    OwnL P f [.agg (cList l),.s s,.i .u32 n] (.agg [.i .u8 (putM l s n).mode,.own 0 (putM l s n).calls.length]) [.cells 2 true true (rC (putM l s n).calls)]:=by
  refine OwnL.mk hc rfl (by simp [flatB,rC_flatO]) ?_
  simp only [ir_fold_Put,cList,argsT,H0,mkT,mkH,trL,List.length_cons,List.length_nil,Nat.reduceAdd,Nat.zero_add]
  simp only [↓vS,cvF_pc,vP,shb,shv,shvs,she_nil,she_cons,vC,vQ,not_false_eq_true,Nat.reduceEqDiff,↓reduceIte,eq_self,Nat.reduceAdd,Nat.reduceMul,Nat.reduceSub,Nat.reduceLeDiff,Nat.reduceLT,defd,cellsOf,wr,packR,Int.reduceLE,Int.reduceLT,Int.reduceEq,Int.cast_ofNat_Int,Int.reduceToNat]
  refine (h1 l hl).sc ?_
  simp only [pushs_cons,pushs_nil,push_mk,shb,shv,shvs,she_nil,she_cons,List.map_cons,List.map_nil,up_mk,down_mk,Nat.reduceAdd,Nat.zero_add]
  simp only [↓vS,cvF_pc,vP,shb,shv,shvs,she_nil,she_cons,vC,vQ,not_false_eq_true,Nat.reduceEqDiff,↓reduceIte,eq_self,Nat.reduceAdd,Nat.reduceMul,Nat.reduceSub,Nat.reduceLeDiff,Nat.reduceLT,defd,cellsOf,wr,packR,Int.reduceLE,Int.reduceLT,Int.reduceEq,Int.cast_ofNat_Int,Int.reduceToNat]
  refine S.weak (Wk.mk [(1,.s s),(2,.i .u32 n),(3,.ptr 0 0),(6,.ptr 1 0)] [.cells 0 true false [.i .u8 l.mode,.own 2 l.calls.length],.cells 0 true false [.i .u8 0,.nils],.cells 2 true true (rC l.calls)] [0,1,2] ?_ ?_ ?_ rfl) (V_sound ?_)
  · simp [vW,bw_map,mapAt_map,mapClo_it,mapClo_nil,mapClo_cons,vP,vZ,Tr.get_set]
  · simp [vW,bw_map,mapAt_map,mapClo_it,mapClo_nil,mapClo_cons,vP,vZ,Tr.get_set,nvs_self,rC_clos,shvs_clo rC_clos]
    try decide
  · simp [vW,bw_map,mapAt_map,mapClo_it,mapClo_nil,mapClo_cons,vP,vZ,Tr.get_set]
  simp only [ir_fold_Put_c2,argsT,H0,mkT,mkH,trL,List.length_cons,List.length_nil,Nat.reduceAdd,Nat.zero_add]
  simp only [↓vS,cvF_pc,vP,shb,shv,shvs,she_nil,she_cons,vC,vQ,not_false_eq_true,Nat.reduceEqDiff,↓reduceIte,eq_self,Nat.reduceAdd,Nat.reduceMul,Nat.reduceSub,Nat.reduceLeDiff,Nat.reduceLT,defd,cellsOf,wr,packR,Int.reduceLE,Int.reduceLT,Int.reduceEq,Int.cast_ofNat_Int,Int.reduceToNat]
  refine (h2 l hl).lend (vs':=[.agg (cList l)]) ?_ rfl ?_
  · simp [vZ,vP,Tr.get_set,cList,frzs_self rC_clos]
    intro h0; rw [h0]; rfl
  cases hM:mayM l with
  | false =>
    have hw:putM l s n = l:=by unfold putM; rw [hM]; rfl
    simp only [↓vS,cvF_pc,vP,shb,shv,shvs,she_nil,she_cons,vC,vQ,not_false_eq_true,Nat.reduceEqDiff,↓reduceIte,eq_self,Nat.reduceAdd,Nat.reduceMul,Nat.reduceSub,Nat.reduceLeDiff,Nat.reduceLT,defd,cellsOf,wr,packR,Int.reduceLE,Int.reduceLT,Int.reduceEq,Int.cast_ofNat_Int,Int.reduceToNat]
    rw [hw]
    intro _
    refine ⟨[2],?_⟩
    simp [vW,bw_map,mapAt_map,mapClo_it,mapClo_nil,mapClo_cons,vP,vZ,Tr.get_set,nvs_self,rC_clos]
  | true =>
    have hw:putM l s n = ⟨l.mode,putL l.calls s n⟩:=by unfold putM; rw [hM]; rfl
    have hb:=bsC_le l.calls (fun c=>cmpB c.name s)
    simp only [↓vS,cvF_pc,vP,shb,shv,shvs,she_nil,she_cons,vC,vQ,not_false_eq_true,Nat.reduceEqDiff,↓reduceIte,eq_self,Nat.reduceAdd,Nat.reduceMul,Nat.reduceSub,Nat.reduceLeDiff,Nat.reduceLT,defd,cellsOf,wr,packR,Int.reduceLE,Int.reduceLT,Int.reduceEq,Int.cast_ofNat_Int,Int.reduceToNat]
    refine (h3 l.calls s g4 (fun c=>cmpB c.name s) (by simp only [roomB]; omega) (fun c _=>h4 c s)).lend (vs':=[.fz l.calls.length (rC l.calls),.s s,.fn g4 [] []]) ?_ rfl ?_
    · simp [vZ,vP,Tr.get_set,frzs_self rC_clos]
      intro h0; rw [h0]; rfl
    rw [hw]
    cases hfd:(l.calls[bsC l.calls (fun c=>cmpB c.name s)]?).elim false (fun c=>decide (cmpB c.name s = 0)) with
    | true =>
      have hp:putL l.calls s n = l.calls.set (bsC l.calls (fun c=>cmpB c.name s)) ⟨s,n⟩:=if_pos hfd
      have hlt:bsC l.calls (fun c=>cmpB c.name s) < l.calls.length:=by
        rcases Nat.lt_or_ge (bsC l.calls (fun c=>cmpB c.name s)) l.calls.length with h | h
        · exact h
        · rw [List.getElem?_eq_none h] at hfd; cases hfd
      have hbd:=rC_bound hlt
      have hset:rC (l.calls.set (bsC l.calls (fun c=>cmpB c.name s)) ⟨s,n⟩) = (rC l.calls).take (bsC l.calls (fun c=>cmpB c.name s) * 2) ++ (AV.s s :: AV.i .u32 n :: (rC l.calls).drop (bsC l.calls (fun c=>cmpB c.name s) * 2 + 2)):=by
        have e2:bsC l.calls (fun c=>cmpB c.name s) * 2 + 2 = (bsC l.calls (fun c=>cmpB c.name s) + 1) * 2:=by omega
        rw [e2,rC_take,rC_drop,List.set_eq_take_append_cons_drop,if_pos hlt,← rC_app,rC_cons] <;> rfl
      simp only [↓vS,cvF_pc,vP,shb,shv,shvs,she_nil,she_cons,vC,vQ,not_false_eq_true,Nat.reduceEqDiff,↓reduceIte,eq_self,Nat.reduceAdd,Nat.reduceMul,Nat.reduceSub,Nat.reduceLeDiff,Nat.reduceLT,defd,cellsOf,wr,packR,Int.reduceLE,Int.reduceLT,Int.reduceEq,Int.cast_ofNat_Int,Int.reduceToNat,hlt,hbd]
      rw [hp]
      simp only [← hset]
      intro _
      refine ⟨[2],?_⟩
      simp [vW,bw_map,mapAt_map,mapClo_it,mapClo_nil,mapClo_cons,vP,vZ,Tr.get_set,nvs_self,rC_clos]
    | false =>
      have hp:putL l.calls s n = l.calls.take (bsC l.calls (fun c=>cmpB c.name s)) ++ ⟨s,n⟩ :: l.calls.drop (bsC l.calls (fun c=>cmpB c.name s)):=if_neg (by rw [hfd]; decide)
      simp only [↓vS,cvF_pc,vP,shb,shv,shvs,she_nil,she_cons,vC,vQ,not_false_eq_true,Nat.reduceEqDiff,↓reduceIte,eq_self,Nat.reduceAdd,Nat.reduceMul,Nat.reduceSub,Nat.reduceLeDiff,Nat.reduceLT,defd,cellsOf,wr,packR,Int.reduceLE,Int.reduceLT,Int.reduceEq,Int.cast_ofNat_Int,Int.reduceToNat]
      refine (h5 l.calls.length (bsC l.calls (fun c=>cmpB c.name s)) (rC l.calls) [.s s,.i .u32 n] (by rw [rC_len]) rfl rC_clos rfl rC_ok rfl hb (by simp only [roomB]; omega) (by simp only [roomB]; omega)).sc (vs:=[.own 0 l.calls.length,.i .i64 (bsC l.calls (fun c=>cmpB c.name s):Int),.sl 1 0 1 1 false]) [2,4] (Lent.of (by decide) ?_) ?_
      · simp [lent_cons,lent_nil,pushs_cons,pushs_nil,push_mk,shb,shv,shvs,bnds,bnd,rnvs,rnv,gAt,vW,bw_map,mapAt_map,mapClo_it,mapClo_nil,mapClo_cons,vP,vZ,Tr.get_set,bnds_clo rC_clos,rnvs_clo rC_clos]
      have hT:rC (putL l.calls s n) = (rC l.calls).take (bsC l.calls (fun c=>cmpB c.name s) * 2) ++ ([.s s,.i .u32 n] ++ (rC l.calls).drop (bsC l.calls (fun c=>cmpB c.name s) * 2)):=by
        rw [hp,← rC_app,rC_cons,rC_take,rC_drop]; rfl
      have hL:(putL l.calls s n).length = l.calls.length + 1:=by
        rw [hp]; simp; omega
      simp only [← hT]
      simp only [backH,List.cons_append,List.nil_append,List.length_cons,List.length_nil,Nat.zero_add,Nat.reduceAdd,List.take_succ_cons,List.take_zero,List.drop_succ_cons,List.drop_zero,List.map_cons,List.map_nil,rnb,rnvs,rnv,gAt,Nat.reduceLT,↓reduceIte,List.getD_cons_zero,List.getD_cons_succ,Nat.reduceSub,puts_cons,puts_nil,pushs_cons,pushs_nil,hput_mk,push_mk,rnvs_clo rC_clos]
      simp only [↓vS,cvF_pc,vP,shb,shv,shvs,she_nil,she_cons,vC,vQ,not_false_eq_true,Nat.reduceEqDiff,↓reduceIte,eq_self,Nat.reduceAdd,Nat.reduceMul,Nat.reduceSub,Nat.reduceLeDiff,Nat.reduceLT,defd,cellsOf,wr,packR,Int.reduceLE,Int.reduceLT,Int.reduceEq,Int.cast_ofNat_Int,Int.reduceToNat]
      intro _
      refine ⟨[5],?_⟩
      simp [vW,bw_map,mapAt_map,mapClo_it,mapClo_nil,mapClo_cons,vP,vZ,Tr.get_set,nvs_self,rC_clos,hL]
end Go.Kc
end
section
/- What fold.Step answers, its list in a row of its own. Condition: the functions' texts are these. -/
namespace Go.Kc
variable {P:Program} {f:Nat}
def oL (l:GList):List AV:=[.i .u8 l.mode,.own 4 l.calls.length]
def cPutL (P:Program) (f:Nat):Prop:=∀ (l:GList) (s:List UInt8) (n:Int),l.calls.length ≤ 100000 → OwnL P f [.agg (cList l),.s s,.i .u32 n] (.agg [.i .u8 (putM l s n).mode,.own 0 (putM l s n).calls.length]) [.cells 2 true true (rC (putM l s n).calls)]
def cTakeL (P:Program) (f:Nat):Prop:=∀ (l:GList) (s:List UInt8),l.calls.length ≤ 100000 → OwnL P f [.agg (cList l),.s s] (.agg [.i .u8 (takeM l s).mode,.own 0 (takeM l s).calls.length]) [.cells 2 true true (rC (takeM l s).calls)]
def cStepL (E:List UInt8 → List (List UInt8) × Int) (P:Program) (f:Nat):Prop:=∀ (l:GList) (v:List UInt8) (fl:Bool),l.calls.length ≤ 100000 → v.length ≤ 1000 → 0 ≤ l.mode →
  Own P f [.agg (cList l),.s v,.b fl] (.tup [.agg [.i .u8 (stepM E l v fl).1.mode,.own 0 (stepM E l v fl).1.calls.length],.own 1 (stepM E l v fl).2.length]) [.cells 2 true true (rC (stepM E l v fl).1.calls),.cells 4 true true (rN (stepM E l v fl).2)]
theorem ostep_in {g1 g2 g3 g4 g5 g6 g7 g8 g9 g10:Nat} (h1:cPutL P g9) (h2:cTakeL P g10) (fl t ins:Bool) (way:Int) (W N:List (List UInt8)) (j:Nat) (l:GList) (wd:Word) (w:List UInt8) (ns:List GNote) (hW:W.length ≤ 1000) (hN:N.length ≤ 1000)
    (hl:mayM l = true) (hm:l.mode ≠ 0) (hk:∀ n ∈ N,knownM n = true) (ha:actM wd.act = true) (Q:X → Tr AV → Hp → Prop)
    (hQ:∀ t' h',Wk 0 t' h' (mkT [(2,.b fl),(3,.ptr 0 0),(6,.ptr 1 0),(9,.b t),(10,.i .i64 way),(11,.ptr 2 0),(46,.fz W.length (rS W)),(47,.i .i64 W.length),(48,.i .i64 j)])
      (mkH 0 [.cells 0 true false (oL (N.foldl (stepN ins wd.act) l)),.cells 0 true false [.i .u8 0,.nils],.cells 0 true false [.own 3 ns.length],.cells 4 true true (rN ns),.cells 2 true true (rC (N.foldl (stepN ins wd.act) l).calls)]) → Q .normal t' h') :
    S P 0 (ir_fold_Step_c95 g1 g2 g3 g4 g5 g6 g7 g8 g9 g10) Q
      (mkT [(2,.b fl),(3,.ptr 0 0),(6,.ptr 1 0),(9,.b t),(10,.i .i64 way),(11,.ptr 2 0),(46,.fz W.length (rS W)),(47,.i .i64 W.length),(48,.i .i64 j),(15,.ptr 5 0),(17,.fz N.length (rS N)),(18,.b ins)])
      (mkH 0 [.cells 0 true false (oL l),.cells 0 true false [.i .u8 0,.nils],.cells 0 true false [.own 3 ns.length],.cells 4 true true (rN ns),.cells 2 true true (rC l.calls),.cells 0 true false (cWord wd)]):=by
  refine V_sound ?_
  simp only [ir_fold_Step_c95,oL,argsT,H0,mkT,mkH,trL,List.length_cons,List.length_nil,Nat.reduceAdd,Nat.zero_add]
  simp only [↓vS,cvF_pc,vP,shb,shv,shvs,she_nil,she_cons,vC,vQ,not_false_eq_true,Nat.reduceEqDiff,↓reduceIte,eq_self,Nat.reduceAdd,Nat.reduceMul,Nat.reduceSub,Nat.reduceLeDiff,Nat.reduceLT,defd,cellsOf,wr,packR,Int.reduceLE,Int.reduceLT,Int.reduceEq,Int.cast_ofNat_Int,Int.reduceToNat]
  refine SL.loop (α:=Nat) (fun k=>[(2,.b fl),(3,.ptr 0 0),(6,.ptr 1 0),(9,.b t),(10,.i .i64 way),(11,.ptr 2 0),(46,.fz W.length (rS W)),(47,.i .i64 W.length),(48,.i .i64 j),(15,.ptr 5 0),(18,.b ins),(95,.fz N.length (rS N)),(96,.i .i64 N.length),(97,.i .i64 k)])
    (fun k=>[.cells 0 true false (oL ((N.take k).foldl (stepN ins wd.act) l)),.cells 0 true false [.i .u8 0,.nils],.cells 0 true false [.own 3 ns.length],.cells 4 true true (rN ns),.cells 2 true true (rC ((N.take k).foldl (stepN ins wd.act) l).calls),.cells 0 true false (cWord wd)])
    (fun k=>k ≤ N.length) (fun k=>N.length - k) 0 [0,1,2,3,4,5] ?_ ?_ ?_ rfl ?_ ?_
  · simp [vW,bw_map,mapAt_map,mapClo_it,mapClo_nil,mapClo_cons,vP,vZ,Tr.get_set]
  · simp [vW,bw_map,mapAt_map,mapClo_it,mapClo_nil,mapClo_cons,vP,vZ,Tr.get_set,oL,nvs_self,rN_clos,rC_clos,cWord]
  · simp
  · exact Nat.zero_le _
  rintro k hk1 G ih
  have hmay:=foldN_may (ins:=ins) ha hl hm (fun n hn=>hk n (List.mem_of_mem_take (i:=k) hn))
  have hlen:=may_len hmay
  generalize hr:(N.take k).foldl (stepN ins wd.act) l = r at hmay hlen ih ⊢
  simp only [argsT,H0,mkT,mkH,trL,List.length_cons,List.length_nil,Nat.reduceAdd,Nat.zero_add]
  by_cases hlt:k < N.length
  · have hx:(rS N)[k]? = some (.s N[k]):=by rw [rS_get,List.getElem?_eq_getElem hlt]; rfl
    have hw:IntKind.wrap .i64 ((k:Int) + 1) = ((k + 1:Nat):Int):=by rw [wrap64 (by omega) (by omega)]; omega
    have hnext:(N.take (k + 1)).foldl (stepN ins wd.act) l = stepN ins wd.act r N[k]:=by
      rw [List.take_add_one,List.getElem?_eq_getElem hlt,List.foldl_append,hr]; rfl
    have ih2:=ih (k + 1)
    rw [hnext] at ih2
    simp only [oL,cWord]
    cases ins with
    | true =>
      simp only [↓vS,cvF_pc,vP,shb,shv,shvs,she_nil,she_cons,vC,vQ,not_false_eq_true,Nat.reduceEqDiff,↓reduceIte,eq_self,Nat.reduceAdd,Nat.reduceMul,Nat.reduceSub,Nat.reduceLeDiff,Nat.reduceLT,defd,cellsOf,wr,packR,Int.reduceLE,Int.reduceLT,Int.reduceEq,Int.cast_ofNat_Int,Int.reduceToNat,hlt,hx,Nat.mul_one]
      refine (h1 r N[k] wd.act (by omega)).sc ?_ ?_
      · simp [vZ,vP,Tr.get_set,cList,frzs_self rC_clos]
        intro h0; rw [h0]; rfl
      simp only [pushs_cons,pushs_nil,push_mk,shb,shv,shvs,she_nil,she_cons,List.map_cons,List.map_nil,up_mk,down_mk,Nat.reduceAdd,Nat.zero_add,shvs_clo rC_clos]
      simp only [↓vS,cvF_pc,vP,shb,shv,shvs,she_nil,she_cons,vC,vQ,not_false_eq_true,Nat.reduceEqDiff,↓reduceIte,eq_self,Nat.reduceAdd,Nat.reduceMul,Nat.reduceSub,Nat.reduceLeDiff,Nat.reduceLT,defd,cellsOf,wr,packR,Int.reduceLE,Int.reduceLT,Int.reduceEq,Int.cast_ofNat_Int,Int.reduceToNat,hw]
      refine ih2 (by omega) (by omega) _ _ (Wk.mk _ _ [0,1,2,3,6,5] ?_ ?_ ?_ rfl)
      · simp [vW,bw_map,mapAt_map,mapClo_it,mapClo_nil,mapClo_cons,vP,vZ,Tr.get_set]
      · simp [vW,bw_map,mapAt_map,mapClo_it,mapClo_nil,mapClo_cons,vP,vZ,Tr.get_set,oL,nvs_self,rN_clos,rC_clos,cWord,stepN]
      · simp
    | false =>
      simp only [↓vS,cvF_pc,vP,shb,shv,shvs,she_nil,she_cons,vC,vQ,not_false_eq_true,Nat.reduceEqDiff,↓reduceIte,eq_self,Nat.reduceAdd,Nat.reduceMul,Nat.reduceSub,Nat.reduceLeDiff,Nat.reduceLT,defd,cellsOf,wr,packR,Int.reduceLE,Int.reduceLT,Int.reduceEq,Int.cast_ofNat_Int,Int.reduceToNat,hlt,hx,Nat.mul_one]
      refine (h2 r N[k] (by omega)).sc ?_ ?_
      · simp [vZ,vP,Tr.get_set,cList,frzs_self rC_clos]
        intro h0; rw [h0]; rfl
      simp only [pushs_cons,pushs_nil,push_mk,shb,shv,shvs,she_nil,she_cons,List.map_cons,List.map_nil,up_mk,down_mk,Nat.reduceAdd,Nat.zero_add,shvs_clo rC_clos]
      simp only [↓vS,cvF_pc,vP,shb,shv,shvs,she_nil,she_cons,vC,vQ,not_false_eq_true,Nat.reduceEqDiff,↓reduceIte,eq_self,Nat.reduceAdd,Nat.reduceMul,Nat.reduceSub,Nat.reduceLeDiff,Nat.reduceLT,defd,cellsOf,wr,packR,Int.reduceLE,Int.reduceLT,Int.reduceEq,Int.cast_ofNat_Int,Int.reduceToNat,hw]
      refine ih2 (by omega) (by omega) _ _ (Wk.mk _ _ [0,1,2,3,6,5] ?_ ?_ ?_ rfl)
      · simp [vW,bw_map,mapAt_map,mapClo_it,mapClo_nil,mapClo_cons,vP,vZ,Tr.get_set]
      · simp [vW,bw_map,mapAt_map,mapClo_it,mapClo_nil,mapClo_cons,vP,vZ,Tr.get_set,oL,nvs_self,rN_clos,rC_clos,cWord,stepN]
      · simp
  · have hkl:N.take k = N:=List.take_of_length_le (by omega)
    rw [hkl] at hr
    rw [hr] at hQ
    simp only [↓vS,cvF_pc,vP,shb,shv,shvs,she_nil,she_cons,vC,vQ,not_false_eq_true,Nat.reduceEqDiff,↓reduceIte,eq_self,Nat.reduceAdd,Nat.reduceMul,Nat.reduceSub,Nat.reduceLeDiff,Nat.reduceLT,defd,cellsOf,wr,packR,Int.reduceLE,Int.reduceLT,Int.reduceEq,Int.cast_ofNat_Int,Int.reduceToNat,hlt]
    refine hQ _ _ (Wk.mk _ _ [0,1,2,3,4] ?_ ?_ ?_ rfl)
    · simp [vW,bw_map,mapAt_map,mapClo_it,mapClo_nil,mapClo_cons,vP,vZ,Tr.get_set]
    · simp [vW,bw_map,mapAt_map,mapClo_it,mapClo_nil,mapClo_cons,vP,vZ,Tr.get_set,oL,nvs_self,rN_clos,rC_clos]
    · simp
theorem ostep_up {g1 g2 g3 g4 g5 g6 g7 g8 g9 g10:Nat} (fl t:Bool) (way:Int) (W:List (List UInt8)) (j:Nat) (hj:j < 100000) (l:GList) (ns:List GNote) (Q:X → Tr AV → Hp → Prop)
    (hQ:∀ t' h',Wk 0 t' h' (mkT [(2,.b fl),(3,.ptr 0 0),(6,.ptr 1 0),(9,.b t),(10,.i .i64 way),(11,.ptr 2 0),(46,.fz W.length (rS W)),(47,.i .i64 W.length),(48,.i .i64 (j + 1:Nat))])
      (mkH 0 [.cells 0 true false (oL l),.cells 0 true false [.i .u8 0,.nils],.cells 0 true false [.own 3 ns.length],.cells 4 true true (rN ns),.cells 2 true true (rC l.calls)]) → Q .normal t' h') :
    S P 0 (ir_fold_Step_c111 g1 g2 g3 g4 g5 g6 g7 g8 g9 g10) Q
      (mkT [(2,.b fl),(3,.ptr 0 0),(6,.ptr 1 0),(9,.b t),(10,.i .i64 way),(11,.ptr 2 0),(46,.fz W.length (rS W)),(47,.i .i64 W.length),(48,.i .i64 j)])
      (mkH 0 [.cells 0 true false (oL l),.cells 0 true false [.i .u8 0,.nils],.cells 0 true false [.own 3 ns.length],.cells 4 true true (rN ns),.cells 2 true true (rC l.calls)]):=by
  have hw:IntKind.wrap .i64 ((j:Int) + 1) = ((j + 1:Nat):Int):=by rw [wrap64 (by omega) (by omega)]; omega
  refine V_sound ?_
  simp only [ir_fold_Step_c111,oL,argsT,H0,mkT,mkH,trL,List.length_cons,List.length_nil,Nat.reduceAdd,Nat.zero_add]
  simp only [↓vS,cvF_pc,vP,shb,shv,shvs,she_nil,she_cons,vC,vQ,not_false_eq_true,Nat.reduceEqDiff,↓reduceIte,eq_self,Nat.reduceAdd,Nat.reduceMul,Nat.reduceSub,Nat.reduceLeDiff,Nat.reduceLT,defd,cellsOf,wr,packR,Int.reduceLE,Int.reduceLT,Int.reduceEq,Int.cast_ofNat_Int,Int.reduceToNat,hw]
  refine hQ _ _ (Wk.mk _ _ [0,1,2,3,4] ?_ ?_ ?_ rfl)
  · simp [vW,bw_map,mapAt_map,mapClo_it,mapClo_nil,mapClo_cons,vP,vZ,Tr.get_set]
  · simp [vW,bw_map,mapAt_map,mapClo_it,mapClo_nil,mapClo_cons,vP,vZ,Tr.get_set,oL,nvs_self,rN_clos,rC_clos]
  · simp
set_option maxHeartbeats 2000000 in
theorem ostep_c9 {g1 g2 g3 g4 g5 g6 g7 g8 g9 g10:Nat} {E:List UInt8 → List (List UInt8) × Int} (hE:ExpOk E) (h3:cWords P g3) (h5:cStep1 P g5) (h6:cRead P g6) (h7:cExp (memM E) P g7) (h8:cIns P g8) (h9:cPutL P g9) (h10:cTakeL P g10)
    (fl t:Bool) (v:List UInt8) (hv:v.length ≤ 1000) (l:GList) (hl:mayM l = true) (hm:l.mode = 1 ∨ l.mode = 2) :
    S P 0 (ir_fold_Step_c9 g1 g2 g3 g4 g5 g6 g7 g8 g9 g10) (endX [.cell 6 2 true,.tmp 7] (OwnZ (.tup [.agg [.i .u8 ((words v).foldl (stepW E fl t) (l,[])).1.mode,.own 0 ((words v).foldl (stepW E fl t) (l,[])).1.calls.length],.own 1 ((words v).foldl (stepW E fl t) (l,[])).2.length]) [.cells 2 true true (rC ((words v).foldl (stepW E fl t) (l,[])).1.calls),.cells 4 true true (rN ((words v).foldl (stepW E fl t) (l,[])).2)]))
      (mkT [(2,.b fl),(3,.ptr 0 0),(6,.ptr 1 0),(8,.s v),(9,.b t),(10,.i .i64 (wayI t)),(11,.ptr 2 0)])
      (mkH 0 [.cells 0 true false (oL l),.cells 0 true false [.i .u8 0,.nils],.cells 0 true false [.own 3 0],.cells 4 true true [],.cells 2 true true (rC l.calls)]):=by
  have hwl:=words_len v
  refine V_sound ?_
  simp only [ir_fold_Step_c9,oL,argsT,H0,mkT,mkH,trL,List.length_cons,List.length_nil,Nat.reduceAdd,Nat.zero_add]
  simp only [↓vS,cvF_pc,vP,shb,shv,shvs,she_nil,she_cons,vC,vQ,not_false_eq_true,Nat.reduceEqDiff,↓reduceIte,eq_self,Nat.reduceAdd,Nat.reduceMul,Nat.reduceSub,Nat.reduceLeDiff,Nat.reduceLT,defd,cellsOf,wr,packR,Int.reduceLE,Int.reduceLT,Int.reduceEq,Int.cast_ofNat_Int,Int.reduceToNat]
  refine (h3 v (by omega)).sc ?_
  simp only [↓vS,cvF_pc,vP,shb,shv,shvs,she_nil,she_cons,vC,vQ,not_false_eq_true,Nat.reduceEqDiff,↓reduceIte,eq_self,Nat.reduceAdd,Nat.reduceMul,Nat.reduceSub,Nat.reduceLeDiff,Nat.reduceLT,defd,cellsOf,wr,packR,Int.reduceLE,Int.reduceLT,Int.reduceEq,Int.cast_ofNat_Int,Int.reduceToNat]
  refine SL.loop (α:=Nat) (fun j=>[(2,.b fl),(3,.ptr 0 0),(6,.ptr 1 0),(9,.b t),(10,.i .i64 (wayI t)),(11,.ptr 2 0),(46,.fz (words v).length (rS (words v))),(47,.i .i64 (words v).length),(48,.i .i64 j)])
    (fun j=>[.cells 0 true false (oL (((words v).take j).foldl (stepW E fl t) (l,[])).1),.cells 0 true false [.i .u8 0,.nils],.cells 0 true false [.own 3 (((words v).take j).foldl (stepW E fl t) (l,[])).2.length],.cells 4 true true (rN (((words v).take j).foldl (stepW E fl t) (l,[])).2),.cells 2 true true (rC (((words v).take j).foldl (stepW E fl t) (l,[])).1.calls)])
    (fun j=>j ≤ (words v).length) (fun j=>(words v).length - j) 0 [0,1,2,3,4] ?_ ?_ ?_ rfl ?_ ?_
  · simp [vW,bw_map,mapAt_map,mapClo_it,mapClo_nil,mapClo_cons,vP,vZ,Tr.get_set,rS]
  · simp [vW,bw_map,mapAt_map,mapClo_it,mapClo_nil,mapClo_cons,vP,vZ,Tr.get_set,oL,nvs_self,rN_clos,rC_clos,rN_nil]
  · simp
  · exact Nat.zero_le _
  rintro j hj G ih
  obtain ⟨k1,k2,k3⟩:=stepWs_may hE fl t ((words v).take j) (l,[]) hl (by dsimp only; omega)
  have k4:=may_len k1
  dsimp only at k2
  simp only [List.length_take,List.length_nil,Nat.zero_add] at k3
  generalize hr:((words v).take j).foldl (stepW E fl t) (l,[]) = r at k1 k2 k3 k4 ih ⊢
  simp only [argsT,H0,mkT,mkH,trL,List.length_cons,List.length_nil,Nat.reduceAdd,Nat.zero_add]
  by_cases hlt:j < (words v).length
  · have hx : (rS (words v))[j]? = some (.s (words v)[j]):=by rw [rS_get,List.getElem?_eq_getElem hlt]; rfl
    have hwj:IntKind.wrap .i64 ((j:Int) + 1) = ((j + 1:Nat):Int):=by rw [wrap64 (by omega) (by omega)]; omega
    have hnext:((words v).take (j + 1)).foldl (stepW E fl t) (l,[]) = stepW E fl t r (words v)[j]:=by
      rw [List.take_add_one,List.getElem?_eq_getElem hlt,List.foldl_append,hr]; rfl
    have ih2:=ih (j + 1)
    rw [hnext] at ih2
    have hwd:=words_word (List.getElem_mem hlt)
    generalize (words v)[j] = w at hx hnext hwd ih2
    simp only [oL]
    simp only [↓vS,cvF_pc,vP,shb,shv,shvs,she_nil,she_cons,vC,vQ,not_false_eq_true,Nat.reduceEqDiff,↓reduceIte,eq_self,Nat.reduceAdd,Nat.reduceMul,Nat.reduceSub,Nat.reduceLeDiff,Nat.reduceLT,defd,cellsOf,wr,packR,Int.reduceLE,Int.reduceLT,Int.reduceEq,Int.cast_ofNat_Int,Int.reduceToNat,hlt,hx,Nat.mul_one]
    refine (h6 w (by omega)).sc ?_
    simp only [↓vS,cvF_pc,vP,shb,shv,shvs,she_nil,she_cons,vC,vQ,not_false_eq_true,Nat.reduceEqDiff,↓reduceIte,eq_self,Nat.reduceAdd,Nat.reduceMul,Nat.reduceSub,Nat.reduceLeDiff,Nat.reduceLT,defd,cellsOf,wr,packR,Int.reduceLE,Int.reduceLT,Int.reduceEq,Int.cast_ofNat_Int,Int.reduceToNat,cWord]
    by_cases e1:(readM w).2 = 0
    · simp only [↓vS,cvF_pc,vP,shb,shv,shvs,she_nil,she_cons,vC,vQ,not_false_eq_true,Nat.reduceEqDiff,↓reduceIte,eq_self,Nat.reduceAdd,Nat.reduceMul,Nat.reduceSub,Nat.reduceLeDiff,Nat.reduceLT,defd,cellsOf,wr,packR,Int.reduceLE,Int.reduceLT,Int.reduceEq,Int.cast_ofNat_Int,Int.reduceToNat,e1]
      refine (h7 (readM w).1.name).sc ?_
      by_cases e2:(memM E (readM w).1.name).2 = 0
      · have hk := memM_ok hE (readM w).1.name
        simp only [↓vS,cvF_pc,vP,shb,shv,shvs,she_nil,she_cons,vC,vQ,not_false_eq_true,Nat.reduceEqDiff,↓reduceIte,eq_self,Nat.reduceAdd,Nat.reduceMul,Nat.reduceSub,Nat.reduceLeDiff,Nat.reduceLT,defd,cellsOf,wr,packR,Int.reduceLE,Int.reduceLT,Int.reduceEq,Int.cast_ofNat_Int,Int.reduceToNat,e2]
        refine VD_pc ?_
        simp only [↓vS,cvF_pc,vP,shb,shv,shvs,she_nil,she_cons,vC,vQ,not_false_eq_true,Nat.reduceEqDiff,↓reduceIte,eq_self,Nat.reduceAdd,Nat.reduceMul,Nat.reduceSub,Nat.reduceLeDiff,Nat.reduceLT,defd,cellsOf,wr,packR,Int.reduceLE,Int.reduceLT,Int.reduceEq,Int.cast_ofNat_Int,Int.reduceToNat]
        refine h8.pc ?_
        have hu1:IntKind.wrap .u8 (1 - 1) = 0:=by decide
        have hu2:IntKind.wrap .u8 (2 - 1) = 1:=by decide
        have hmode:r.1.mode = 1 ∨ r.1.mode = 2:=by rw [k2]; exact hm
        cases t with
        | true =>
          have hway:wayI true = 1:=rfl
          rcases hmode with hm1 | hm1
          · have hin:decide (r.1.mode - 1 = if true = true then 1 else 0) = false:=by rw [hm1]; rfl
            simp only [↓vS,cvF_pc,vP,shb,shv,shvs,she_nil,she_cons,vC,vQ,not_false_eq_true,Nat.reduceEqDiff,↓reduceIte,eq_self,Nat.reduceAdd,Nat.reduceMul,Nat.reduceSub,Nat.reduceLeDiff,Nat.reduceLT,defd,cellsOf,wr,packR,Int.reduceLE,Int.reduceLT,Int.reduceEq,Int.cast_ofNat_Int,Int.reduceToNat,hm1,hway,hu1,hu2,List.drop_succ_cons,List.drop_zero,List.take_succ_cons,List.take_zero,List.getElem?_cons_zero,List.getElem?_cons_succ]
            cases hh:(readM w).1.has with
            | false =>
              have hs:stepW E fl true r w = ((memM E (readM w).1.name).1.foldl (stepN false (readM w).1.act) r.1,r.2):=by
                unfold stepW; rw [if_neg (by simp [e1]),if_neg (by simp [e2]),if_pos hh,hin]
              rw [hs] at ih2
              simp only [↓vS,cvF_pc,vP,shb,shv,shvs,she_nil,she_cons,vC,vQ,not_false_eq_true,Nat.reduceEqDiff,↓reduceIte,eq_self,Nat.reduceAdd,Nat.reduceMul,Nat.reduceSub,Nat.reduceLeDiff,Nat.reduceLT,defd,cellsOf,wr,packR,Int.reduceLE,Int.reduceLT,Int.reduceEq,Int.cast_ofNat_Int,Int.reduceToNat]
              refine S.weak (Wk.mk _ _ [0,1,2,3,4,6] ?_ ?_ ?_ rfl) (ostep_in h9 h10 fl true false (wayI true) (words v) (memM E (readM w).1.name).1 j r.1 (readM w).1 w r.2 (by omega) (by omega) k1 (by omega) hk.1 (readM_act w) _ ?_)
              · simp [vW,bw_map,mapAt_map,mapClo_it,mapClo_nil,mapClo_cons,vP,vZ,Tr.get_set,hh,hm1]
              · simp [vW,bw_map,mapAt_map,mapClo_it,mapClo_nil,mapClo_cons,vP,vZ,Tr.get_set,oL,nvs_self,rN_clos,rC_clos,cWord,hh,hm1]
              · simp
              · intro t' h' hw
                simp only [↓vS,cvF_pc,vP,shb,shv,shvs,she_nil,she_cons,vC,vQ,not_false_eq_true,Nat.reduceEqDiff,↓reduceIte,eq_self,Nat.reduceAdd,Nat.reduceMul,Nat.reduceSub,Nat.reduceLeDiff,Nat.reduceLT,defd,cellsOf,wr,packR,Int.reduceLE,Int.reduceLT,Int.reduceEq,Int.cast_ofNat_Int,Int.reduceToNat]
                exact S.weak hw (ostep_up fl true (wayI true) (words v) j (by omega) _ _ _ (fun t'' h'' hw'=>ih2 (by omega) (by omega) t'' h'' hw'))
            | true =>
              cases fl with
              | false =>
                have hs:stepW E false true r w = ((memM E (readM w).1.name).1.foldl (stepN false 0) r.1,r.2 ++ [noteW 161 w]):=by
                  unfold stepW; rw [if_neg (by simp [e1]),if_neg (by simp [e2]),if_neg (by simp [hh]),if_pos (by decide),hin]
                rw [hs] at ih2
                simp only [↓vS,cvF_pc,vP,shb,shv,shvs,she_nil,she_cons,vC,vQ,not_false_eq_true,Nat.reduceEqDiff,↓reduceIte,eq_self,Nat.reduceAdd,Nat.reduceMul,Nat.reduceSub,Nat.reduceLeDiff,Nat.reduceLT,defd,cellsOf,wr,packR,Int.reduceLE,Int.reduceLT,Int.reduceEq,Int.cast_ofNat_Int,Int.reduceToNat]
                refine (h5 r.2 161 w (by simp only [roomB]; omega)).sc (vs:=[.i .i64 161,.ptr 0 0,.ptr 1 0]) [2,5,3] (Lent.of (by decide) ?_) ?_
                · simp [lent_cons,lent_nil,pushs_cons,pushs_nil,push_mk,shb,shv,shvs,bnds,bnd,rnvs,rnv,gAt,vW,bw_map,mapAt_map,mapClo_it,mapClo_nil,mapClo_cons,vP,vZ,Tr.get_set,bnds_clo rN_clos,rnvs_clo rN_clos,bnd_clo,clo,rnv_clo]
                simp only [backH,List.cons_append,List.nil_append,List.length_cons,List.length_nil,Nat.zero_add,Nat.reduceAdd,List.take_succ_cons,List.take_zero,List.drop_succ_cons,List.drop_zero,List.map_cons,List.map_nil,rnb,rnvs,rnv,gAt,Nat.reduceLT,↓reduceIte,List.getD_cons_zero,List.getD_cons_succ,Nat.reduceSub,puts_cons,puts_nil,pushs_cons,pushs_nil,hput_mk,push_mk,rnvs_clo rN_clos,rnv_clo,clo]
                simp only [↓vS,cvF_pc,vP,shb,shv,shvs,she_nil,she_cons,vC,vQ,not_false_eq_true,Nat.reduceEqDiff,↓reduceIte,eq_self,Nat.reduceAdd,Nat.reduceMul,Nat.reduceSub,Nat.reduceLeDiff,Nat.reduceLT,defd,cellsOf,wr,packR,Int.reduceLE,Int.reduceLT,Int.reduceEq,Int.cast_ofNat_Int,Int.reduceToNat]
                refine S.weak (Wk.mk _ _ [0,1,2,7,4,6] ?_ ?_ ?_ rfl) (ostep_in h9 h10 false true false (wayI true) (words v) (memM E (readM w).1.name).1 j r.1 ⟨(readM w).1.name,0,(readM w).1.has⟩ w (r.2 ++ [noteW 161 w]) (by omega) (by omega) k1 (by omega) hk.1 rfl _ ?_)
                · simp [vW,bw_map,mapAt_map,mapClo_it,mapClo_nil,mapClo_cons,vP,vZ,Tr.get_set,hh,hm1]
                · simp [vW,bw_map,mapAt_map,mapClo_it,mapClo_nil,mapClo_cons,vP,vZ,Tr.get_set,oL,nvs_self,rN_clos,rC_clos,cWord,hh,hm1]
                · simp
                · intro t' h' hw
                  simp only [↓vS,cvF_pc,vP,shb,shv,shvs,she_nil,she_cons,vC,vQ,not_false_eq_true,Nat.reduceEqDiff,↓reduceIte,eq_self,Nat.reduceAdd,Nat.reduceMul,Nat.reduceSub,Nat.reduceLeDiff,Nat.reduceLT,defd,cellsOf,wr,packR,Int.reduceLE,Int.reduceLT,Int.reduceEq,Int.cast_ofNat_Int,Int.reduceToNat]
                  exact S.weak hw (ostep_up false true (wayI true) (words v) j (by omega) _ _ _ (fun t'' h'' hw'=>ih2 (by omega) (by omega) t'' h'' hw'))
              | true =>
                have hs:stepW E true true r w = ((memM E (readM w).1.name).1.foldl (stepN true (readM w).1.act) r.1,r.2):=by
                  unfold stepW; rw [if_neg (by simp [e1]),if_neg (by simp [e2]),if_neg (by simp [hh]),if_neg (by decide)]
                rw [hs] at ih2
                simp only [↓vS,cvF_pc,vP,shb,shv,shvs,she_nil,she_cons,vC,vQ,not_false_eq_true,Nat.reduceEqDiff,↓reduceIte,eq_self,Nat.reduceAdd,Nat.reduceMul,Nat.reduceSub,Nat.reduceLeDiff,Nat.reduceLT,defd,cellsOf,wr,packR,Int.reduceLE,Int.reduceLT,Int.reduceEq,Int.cast_ofNat_Int,Int.reduceToNat]
                refine S.weak (Wk.mk _ _ [0,1,2,3,4,6] ?_ ?_ ?_ rfl) (ostep_in h9 h10 true true true (wayI true) (words v) (memM E (readM w).1.name).1 j r.1 (readM w).1 w r.2 (by omega) (by omega) k1 (by omega) hk.1 (readM_act w) _ ?_)
                · simp [vW,bw_map,mapAt_map,mapClo_it,mapClo_nil,mapClo_cons,vP,vZ,Tr.get_set,hh,hm1]
                · simp [vW,bw_map,mapAt_map,mapClo_it,mapClo_nil,mapClo_cons,vP,vZ,Tr.get_set,oL,nvs_self,rN_clos,rC_clos,cWord,hh,hm1]
                · simp
                · intro t' h' hw
                  simp only [↓vS,cvF_pc,vP,shb,shv,shvs,she_nil,she_cons,vC,vQ,not_false_eq_true,Nat.reduceEqDiff,↓reduceIte,eq_self,Nat.reduceAdd,Nat.reduceMul,Nat.reduceSub,Nat.reduceLeDiff,Nat.reduceLT,defd,cellsOf,wr,packR,Int.reduceLE,Int.reduceLT,Int.reduceEq,Int.cast_ofNat_Int,Int.reduceToNat]
                  exact S.weak hw (ostep_up true true (wayI true) (words v) j (by omega) _ _ _ (fun t'' h'' hw'=>ih2 (by omega) (by omega) t'' h'' hw'))
          · have hin:decide (r.1.mode - 1 = if true = true then 1 else 0) = true:=by rw [hm1]; rfl
            simp only [↓vS,cvF_pc,vP,shb,shv,shvs,she_nil,she_cons,vC,vQ,not_false_eq_true,Nat.reduceEqDiff,↓reduceIte,eq_self,Nat.reduceAdd,Nat.reduceMul,Nat.reduceSub,Nat.reduceLeDiff,Nat.reduceLT,defd,cellsOf,wr,packR,Int.reduceLE,Int.reduceLT,Int.reduceEq,Int.cast_ofNat_Int,Int.reduceToNat,hm1,hway,hu1,hu2,List.drop_succ_cons,List.drop_zero,List.take_succ_cons,List.take_zero,List.getElem?_cons_zero,List.getElem?_cons_succ]
            cases hh:(readM w).1.has with
            | false =>
              have hs:stepW E fl true r w = ((memM E (readM w).1.name).1.foldl (stepN true (readM w).1.act) r.1,r.2):=by
                unfold stepW; rw [if_neg (by simp [e1]),if_neg (by simp [e2]),if_pos hh,hin]
              rw [hs] at ih2
              simp only [↓vS,cvF_pc,vP,shb,shv,shvs,she_nil,she_cons,vC,vQ,not_false_eq_true,Nat.reduceEqDiff,↓reduceIte,eq_self,Nat.reduceAdd,Nat.reduceMul,Nat.reduceSub,Nat.reduceLeDiff,Nat.reduceLT,defd,cellsOf,wr,packR,Int.reduceLE,Int.reduceLT,Int.reduceEq,Int.cast_ofNat_Int,Int.reduceToNat]
              refine S.weak (Wk.mk _ _ [0,1,2,3,4,6] ?_ ?_ ?_ rfl) (ostep_in h9 h10 fl true true (wayI true) (words v) (memM E (readM w).1.name).1 j r.1 (readM w).1 w r.2 (by omega) (by omega) k1 (by omega) hk.1 (readM_act w) _ ?_)
              · simp [vW,bw_map,mapAt_map,mapClo_it,mapClo_nil,mapClo_cons,vP,vZ,Tr.get_set,hh,hm1]
              · simp [vW,bw_map,mapAt_map,mapClo_it,mapClo_nil,mapClo_cons,vP,vZ,Tr.get_set,oL,nvs_self,rN_clos,rC_clos,cWord,hh,hm1]
              · simp
              · intro t' h' hw
                simp only [↓vS,cvF_pc,vP,shb,shv,shvs,she_nil,she_cons,vC,vQ,not_false_eq_true,Nat.reduceEqDiff,↓reduceIte,eq_self,Nat.reduceAdd,Nat.reduceMul,Nat.reduceSub,Nat.reduceLeDiff,Nat.reduceLT,defd,cellsOf,wr,packR,Int.reduceLE,Int.reduceLT,Int.reduceEq,Int.cast_ofNat_Int,Int.reduceToNat]
                exact S.weak hw (ostep_up fl true (wayI true) (words v) j (by omega) _ _ _ (fun t'' h'' hw'=>ih2 (by omega) (by omega) t'' h'' hw'))
            | true =>
              cases fl with
              | false =>
                have hs:stepW E false true r w = ((memM E (readM w).1.name).1.foldl (stepN true 0) r.1,r.2 ++ [noteW 161 w]):=by
                  unfold stepW; rw [if_neg (by simp [e1]),if_neg (by simp [e2]),if_neg (by simp [hh]),if_pos (by decide),hin]
                rw [hs] at ih2
                simp only [↓vS,cvF_pc,vP,shb,shv,shvs,she_nil,she_cons,vC,vQ,not_false_eq_true,Nat.reduceEqDiff,↓reduceIte,eq_self,Nat.reduceAdd,Nat.reduceMul,Nat.reduceSub,Nat.reduceLeDiff,Nat.reduceLT,defd,cellsOf,wr,packR,Int.reduceLE,Int.reduceLT,Int.reduceEq,Int.cast_ofNat_Int,Int.reduceToNat]
                refine (h5 r.2 161 w (by simp only [roomB]; omega)).sc (vs:=[.i .i64 161,.ptr 0 0,.ptr 1 0]) [2,5,3] (Lent.of (by decide) ?_) ?_
                · simp [lent_cons,lent_nil,pushs_cons,pushs_nil,push_mk,shb,shv,shvs,bnds,bnd,rnvs,rnv,gAt,vW,bw_map,mapAt_map,mapClo_it,mapClo_nil,mapClo_cons,vP,vZ,Tr.get_set,bnds_clo rN_clos,rnvs_clo rN_clos,bnd_clo,clo,rnv_clo]
                simp only [backH,List.cons_append,List.nil_append,List.length_cons,List.length_nil,Nat.zero_add,Nat.reduceAdd,List.take_succ_cons,List.take_zero,List.drop_succ_cons,List.drop_zero,List.map_cons,List.map_nil,rnb,rnvs,rnv,gAt,Nat.reduceLT,↓reduceIte,List.getD_cons_zero,List.getD_cons_succ,Nat.reduceSub,puts_cons,puts_nil,pushs_cons,pushs_nil,hput_mk,push_mk,rnvs_clo rN_clos,rnv_clo,clo]
                simp only [↓vS,cvF_pc,vP,shb,shv,shvs,she_nil,she_cons,vC,vQ,not_false_eq_true,Nat.reduceEqDiff,↓reduceIte,eq_self,Nat.reduceAdd,Nat.reduceMul,Nat.reduceSub,Nat.reduceLeDiff,Nat.reduceLT,defd,cellsOf,wr,packR,Int.reduceLE,Int.reduceLT,Int.reduceEq,Int.cast_ofNat_Int,Int.reduceToNat]
                refine S.weak (Wk.mk _ _ [0,1,2,7,4,6] ?_ ?_ ?_ rfl) (ostep_in h9 h10 false true true (wayI true) (words v) (memM E (readM w).1.name).1 j r.1 ⟨(readM w).1.name,0,(readM w).1.has⟩ w (r.2 ++ [noteW 161 w]) (by omega) (by omega) k1 (by omega) hk.1 rfl _ ?_)
                · simp [vW,bw_map,mapAt_map,mapClo_it,mapClo_nil,mapClo_cons,vP,vZ,Tr.get_set,hh,hm1]
                · simp [vW,bw_map,mapAt_map,mapClo_it,mapClo_nil,mapClo_cons,vP,vZ,Tr.get_set,oL,nvs_self,rN_clos,rC_clos,cWord,hh,hm1]
                · simp
                · intro t' h' hw
                  simp only [↓vS,cvF_pc,vP,shb,shv,shvs,she_nil,she_cons,vC,vQ,not_false_eq_true,Nat.reduceEqDiff,↓reduceIte,eq_self,Nat.reduceAdd,Nat.reduceMul,Nat.reduceSub,Nat.reduceLeDiff,Nat.reduceLT,defd,cellsOf,wr,packR,Int.reduceLE,Int.reduceLT,Int.reduceEq,Int.cast_ofNat_Int,Int.reduceToNat]
                  exact S.weak hw (ostep_up false true (wayI true) (words v) j (by omega) _ _ _ (fun t'' h'' hw'=>ih2 (by omega) (by omega) t'' h'' hw'))
              | true =>
                have hs:stepW E true true r w = ((memM E (readM w).1.name).1.foldl (stepN true (readM w).1.act) r.1,r.2):=by
                  unfold stepW; rw [if_neg (by simp [e1]),if_neg (by simp [e2]),if_neg (by simp [hh]),if_neg (by decide)]
                rw [hs] at ih2
                simp only [↓vS,cvF_pc,vP,shb,shv,shvs,she_nil,she_cons,vC,vQ,not_false_eq_true,Nat.reduceEqDiff,↓reduceIte,eq_self,Nat.reduceAdd,Nat.reduceMul,Nat.reduceSub,Nat.reduceLeDiff,Nat.reduceLT,defd,cellsOf,wr,packR,Int.reduceLE,Int.reduceLT,Int.reduceEq,Int.cast_ofNat_Int,Int.reduceToNat]
                refine S.weak (Wk.mk _ _ [0,1,2,3,4,6] ?_ ?_ ?_ rfl) (ostep_in h9 h10 true true true (wayI true) (words v) (memM E (readM w).1.name).1 j r.1 (readM w).1 w r.2 (by omega) (by omega) k1 (by omega) hk.1 (readM_act w) _ ?_)
                · simp [vW,bw_map,mapAt_map,mapClo_it,mapClo_nil,mapClo_cons,vP,vZ,Tr.get_set,hh,hm1]
                · simp [vW,bw_map,mapAt_map,mapClo_it,mapClo_nil,mapClo_cons,vP,vZ,Tr.get_set,oL,nvs_self,rN_clos,rC_clos,cWord,hh,hm1]
                · simp
                · intro t' h' hw
                  simp only [↓vS,cvF_pc,vP,shb,shv,shvs,she_nil,she_cons,vC,vQ,not_false_eq_true,Nat.reduceEqDiff,↓reduceIte,eq_self,Nat.reduceAdd,Nat.reduceMul,Nat.reduceSub,Nat.reduceLeDiff,Nat.reduceLT,defd,cellsOf,wr,packR,Int.reduceLE,Int.reduceLT,Int.reduceEq,Int.cast_ofNat_Int,Int.reduceToNat]
                  exact S.weak hw (ostep_up true true (wayI true) (words v) j (by omega) _ _ _ (fun t'' h'' hw'=>ih2 (by omega) (by omega) t'' h'' hw'))
        | false =>
          have hway:wayI false = 0:=rfl
          rcases hmode with hm1 | hm1
          · have hin:decide (r.1.mode - 1 = if false = true then 1 else 0) = true:=by rw [hm1]; rfl
            simp only [↓vS,cvF_pc,vP,shb,shv,shvs,she_nil,she_cons,vC,vQ,not_false_eq_true,Nat.reduceEqDiff,↓reduceIte,eq_self,Nat.reduceAdd,Nat.reduceMul,Nat.reduceSub,Nat.reduceLeDiff,Nat.reduceLT,defd,cellsOf,wr,packR,Int.reduceLE,Int.reduceLT,Int.reduceEq,Int.cast_ofNat_Int,Int.reduceToNat,hm1,hway,hu1,hu2,List.drop_succ_cons,List.drop_zero,List.take_succ_cons,List.take_zero,List.getElem?_cons_zero,List.getElem?_cons_succ]
            cases hh:(readM w).1.has with
            | false =>
              have hs:stepW E fl false r w = ((memM E (readM w).1.name).1.foldl (stepN true (readM w).1.act) r.1,r.2):=by
                unfold stepW; rw [if_neg (by simp [e1]),if_neg (by simp [e2]),if_pos hh,hin]
              rw [hs] at ih2
              simp only [↓vS,cvF_pc,vP,shb,shv,shvs,she_nil,she_cons,vC,vQ,not_false_eq_true,Nat.reduceEqDiff,↓reduceIte,eq_self,Nat.reduceAdd,Nat.reduceMul,Nat.reduceSub,Nat.reduceLeDiff,Nat.reduceLT,defd,cellsOf,wr,packR,Int.reduceLE,Int.reduceLT,Int.reduceEq,Int.cast_ofNat_Int,Int.reduceToNat]
              refine S.weak (Wk.mk _ _ [0,1,2,3,4,6] ?_ ?_ ?_ rfl) (ostep_in h9 h10 fl false true (wayI false) (words v) (memM E (readM w).1.name).1 j r.1 (readM w).1 w r.2 (by omega) (by omega) k1 (by omega) hk.1 (readM_act w) _ ?_)
              · simp [vW,bw_map,mapAt_map,mapClo_it,mapClo_nil,mapClo_cons,vP,vZ,Tr.get_set,hh,hm1]
              · simp [vW,bw_map,mapAt_map,mapClo_it,mapClo_nil,mapClo_cons,vP,vZ,Tr.get_set,oL,nvs_self,rN_clos,rC_clos,cWord,hh,hm1]
              · simp
              · intro t' h' hw
                simp only [↓vS,cvF_pc,vP,shb,shv,shvs,she_nil,she_cons,vC,vQ,not_false_eq_true,Nat.reduceEqDiff,↓reduceIte,eq_self,Nat.reduceAdd,Nat.reduceMul,Nat.reduceSub,Nat.reduceLeDiff,Nat.reduceLT,defd,cellsOf,wr,packR,Int.reduceLE,Int.reduceLT,Int.reduceEq,Int.cast_ofNat_Int,Int.reduceToNat]
                exact S.weak hw (ostep_up fl false (wayI false) (words v) j (by omega) _ _ _ (fun t'' h'' hw'=>ih2 (by omega) (by omega) t'' h'' hw'))
            | true =>
              cases fl with
              | false =>
                have hs:stepW E false false r w = ((memM E (readM w).1.name).1.foldl (stepN true 0) r.1,r.2 ++ [noteW 161 w]):=by
                  unfold stepW; rw [if_neg (by simp [e1]),if_neg (by simp [e2]),if_neg (by simp [hh]),if_pos (by decide),hin]
                rw [hs] at ih2
                simp only [↓vS,cvF_pc,vP,shb,shv,shvs,she_nil,she_cons,vC,vQ,not_false_eq_true,Nat.reduceEqDiff,↓reduceIte,eq_self,Nat.reduceAdd,Nat.reduceMul,Nat.reduceSub,Nat.reduceLeDiff,Nat.reduceLT,defd,cellsOf,wr,packR,Int.reduceLE,Int.reduceLT,Int.reduceEq,Int.cast_ofNat_Int,Int.reduceToNat]
                refine (h5 r.2 161 w (by simp only [roomB]; omega)).sc (vs:=[.i .i64 161,.ptr 0 0,.ptr 1 0]) [2,5,3] (Lent.of (by decide) ?_) ?_
                · simp [lent_cons,lent_nil,pushs_cons,pushs_nil,push_mk,shb,shv,shvs,bnds,bnd,rnvs,rnv,gAt,vW,bw_map,mapAt_map,mapClo_it,mapClo_nil,mapClo_cons,vP,vZ,Tr.get_set,bnds_clo rN_clos,rnvs_clo rN_clos,bnd_clo,clo,rnv_clo]
                simp only [backH,List.cons_append,List.nil_append,List.length_cons,List.length_nil,Nat.zero_add,Nat.reduceAdd,List.take_succ_cons,List.take_zero,List.drop_succ_cons,List.drop_zero,List.map_cons,List.map_nil,rnb,rnvs,rnv,gAt,Nat.reduceLT,↓reduceIte,List.getD_cons_zero,List.getD_cons_succ,Nat.reduceSub,puts_cons,puts_nil,pushs_cons,pushs_nil,hput_mk,push_mk,rnvs_clo rN_clos,rnv_clo,clo]
                simp only [↓vS,cvF_pc,vP,shb,shv,shvs,she_nil,she_cons,vC,vQ,not_false_eq_true,Nat.reduceEqDiff,↓reduceIte,eq_self,Nat.reduceAdd,Nat.reduceMul,Nat.reduceSub,Nat.reduceLeDiff,Nat.reduceLT,defd,cellsOf,wr,packR,Int.reduceLE,Int.reduceLT,Int.reduceEq,Int.cast_ofNat_Int,Int.reduceToNat]
                refine S.weak (Wk.mk _ _ [0,1,2,7,4,6] ?_ ?_ ?_ rfl) (ostep_in h9 h10 false false true (wayI false) (words v) (memM E (readM w).1.name).1 j r.1 ⟨(readM w).1.name,0,(readM w).1.has⟩ w (r.2 ++ [noteW 161 w]) (by omega) (by omega) k1 (by omega) hk.1 rfl _ ?_)
                · simp [vW,bw_map,mapAt_map,mapClo_it,mapClo_nil,mapClo_cons,vP,vZ,Tr.get_set,hh,hm1]
                · simp [vW,bw_map,mapAt_map,mapClo_it,mapClo_nil,mapClo_cons,vP,vZ,Tr.get_set,oL,nvs_self,rN_clos,rC_clos,cWord,hh,hm1]
                · simp
                · intro t' h' hw
                  simp only [↓vS,cvF_pc,vP,shb,shv,shvs,she_nil,she_cons,vC,vQ,not_false_eq_true,Nat.reduceEqDiff,↓reduceIte,eq_self,Nat.reduceAdd,Nat.reduceMul,Nat.reduceSub,Nat.reduceLeDiff,Nat.reduceLT,defd,cellsOf,wr,packR,Int.reduceLE,Int.reduceLT,Int.reduceEq,Int.cast_ofNat_Int,Int.reduceToNat]
                  exact S.weak hw (ostep_up false false (wayI false) (words v) j (by omega) _ _ _ (fun t'' h'' hw'=>ih2 (by omega) (by omega) t'' h'' hw'))
              | true =>
                have hs:stepW E true false r w = ((memM E (readM w).1.name).1.foldl (stepN true 0) r.1,r.2 ++ [noteW 161 w]):=by
                  unfold stepW; rw [if_neg (by simp [e1]),if_neg (by simp [e2]),if_neg (by simp [hh]),if_pos (by decide),hin]
                rw [hs] at ih2
                simp only [↓vS,cvF_pc,vP,shb,shv,shvs,she_nil,she_cons,vC,vQ,not_false_eq_true,Nat.reduceEqDiff,↓reduceIte,eq_self,Nat.reduceAdd,Nat.reduceMul,Nat.reduceSub,Nat.reduceLeDiff,Nat.reduceLT,defd,cellsOf,wr,packR,Int.reduceLE,Int.reduceLT,Int.reduceEq,Int.cast_ofNat_Int,Int.reduceToNat]
                refine (h5 r.2 161 w (by simp only [roomB]; omega)).sc (vs:=[.i .i64 161,.ptr 0 0,.ptr 1 0]) [2,5,3] (Lent.of (by decide) ?_) ?_
                · simp [lent_cons,lent_nil,pushs_cons,pushs_nil,push_mk,shb,shv,shvs,bnds,bnd,rnvs,rnv,gAt,vW,bw_map,mapAt_map,mapClo_it,mapClo_nil,mapClo_cons,vP,vZ,Tr.get_set,bnds_clo rN_clos,rnvs_clo rN_clos,bnd_clo,clo,rnv_clo]
                simp only [backH,List.cons_append,List.nil_append,List.length_cons,List.length_nil,Nat.zero_add,Nat.reduceAdd,List.take_succ_cons,List.take_zero,List.drop_succ_cons,List.drop_zero,List.map_cons,List.map_nil,rnb,rnvs,rnv,gAt,Nat.reduceLT,↓reduceIte,List.getD_cons_zero,List.getD_cons_succ,Nat.reduceSub,puts_cons,puts_nil,pushs_cons,pushs_nil,hput_mk,push_mk,rnvs_clo rN_clos,rnv_clo,clo]
                simp only [↓vS,cvF_pc,vP,shb,shv,shvs,she_nil,she_cons,vC,vQ,not_false_eq_true,Nat.reduceEqDiff,↓reduceIte,eq_self,Nat.reduceAdd,Nat.reduceMul,Nat.reduceSub,Nat.reduceLeDiff,Nat.reduceLT,defd,cellsOf,wr,packR,Int.reduceLE,Int.reduceLT,Int.reduceEq,Int.cast_ofNat_Int,Int.reduceToNat]
                refine S.weak (Wk.mk _ _ [0,1,2,7,4,6] ?_ ?_ ?_ rfl) (ostep_in h9 h10 true false true (wayI false) (words v) (memM E (readM w).1.name).1 j r.1 ⟨(readM w).1.name,0,(readM w).1.has⟩ w (r.2 ++ [noteW 161 w]) (by omega) (by omega) k1 (by omega) hk.1 rfl _ ?_)
                · simp [vW,bw_map,mapAt_map,mapClo_it,mapClo_nil,mapClo_cons,vP,vZ,Tr.get_set,hh,hm1]
                · simp [vW,bw_map,mapAt_map,mapClo_it,mapClo_nil,mapClo_cons,vP,vZ,Tr.get_set,oL,nvs_self,rN_clos,rC_clos,cWord,hh,hm1]
                · simp
                · intro t' h' hw
                  simp only [↓vS,cvF_pc,vP,shb,shv,shvs,she_nil,she_cons,vC,vQ,not_false_eq_true,Nat.reduceEqDiff,↓reduceIte,eq_self,Nat.reduceAdd,Nat.reduceMul,Nat.reduceSub,Nat.reduceLeDiff,Nat.reduceLT,defd,cellsOf,wr,packR,Int.reduceLE,Int.reduceLT,Int.reduceEq,Int.cast_ofNat_Int,Int.reduceToNat]
                  exact S.weak hw (ostep_up true false (wayI false) (words v) j (by omega) _ _ _ (fun t'' h'' hw'=>ih2 (by omega) (by omega) t'' h'' hw'))
          · have hin:decide (r.1.mode - 1 = if false = true then 1 else 0) = false:=by rw [hm1]; rfl
            simp only [↓vS,cvF_pc,vP,shb,shv,shvs,she_nil,she_cons,vC,vQ,not_false_eq_true,Nat.reduceEqDiff,↓reduceIte,eq_self,Nat.reduceAdd,Nat.reduceMul,Nat.reduceSub,Nat.reduceLeDiff,Nat.reduceLT,defd,cellsOf,wr,packR,Int.reduceLE,Int.reduceLT,Int.reduceEq,Int.cast_ofNat_Int,Int.reduceToNat,hm1,hway,hu1,hu2,List.drop_succ_cons,List.drop_zero,List.take_succ_cons,List.take_zero,List.getElem?_cons_zero,List.getElem?_cons_succ]
            cases hh:(readM w).1.has with
            | false =>
              have hs:stepW E fl false r w = ((memM E (readM w).1.name).1.foldl (stepN false (readM w).1.act) r.1,r.2):=by
                unfold stepW; rw [if_neg (by simp [e1]),if_neg (by simp [e2]),if_pos hh,hin]
              rw [hs] at ih2
              simp only [↓vS,cvF_pc,vP,shb,shv,shvs,she_nil,she_cons,vC,vQ,not_false_eq_true,Nat.reduceEqDiff,↓reduceIte,eq_self,Nat.reduceAdd,Nat.reduceMul,Nat.reduceSub,Nat.reduceLeDiff,Nat.reduceLT,defd,cellsOf,wr,packR,Int.reduceLE,Int.reduceLT,Int.reduceEq,Int.cast_ofNat_Int,Int.reduceToNat]
              refine S.weak (Wk.mk _ _ [0,1,2,3,4,6] ?_ ?_ ?_ rfl) (ostep_in h9 h10 fl false false (wayI false) (words v) (memM E (readM w).1.name).1 j r.1 (readM w).1 w r.2 (by omega) (by omega) k1 (by omega) hk.1 (readM_act w) _ ?_)
              · simp [vW,bw_map,mapAt_map,mapClo_it,mapClo_nil,mapClo_cons,vP,vZ,Tr.get_set,hh,hm1]
              · simp [vW,bw_map,mapAt_map,mapClo_it,mapClo_nil,mapClo_cons,vP,vZ,Tr.get_set,oL,nvs_self,rN_clos,rC_clos,cWord,hh,hm1]
              · simp
              · intro t' h' hw
                simp only [↓vS,cvF_pc,vP,shb,shv,shvs,she_nil,she_cons,vC,vQ,not_false_eq_true,Nat.reduceEqDiff,↓reduceIte,eq_self,Nat.reduceAdd,Nat.reduceMul,Nat.reduceSub,Nat.reduceLeDiff,Nat.reduceLT,defd,cellsOf,wr,packR,Int.reduceLE,Int.reduceLT,Int.reduceEq,Int.cast_ofNat_Int,Int.reduceToNat]
                exact S.weak hw (ostep_up fl false (wayI false) (words v) j (by omega) _ _ _ (fun t'' h'' hw'=>ih2 (by omega) (by omega) t'' h'' hw'))
            | true =>
              cases fl with
              | false =>
                have hs:stepW E false false r w = ((memM E (readM w).1.name).1.foldl (stepN false 0) r.1,r.2 ++ [noteW 161 w]):=by
                  unfold stepW; rw [if_neg (by simp [e1]),if_neg (by simp [e2]),if_neg (by simp [hh]),if_pos (by decide),hin]
                rw [hs] at ih2
                simp only [↓vS,cvF_pc,vP,shb,shv,shvs,she_nil,she_cons,vC,vQ,not_false_eq_true,Nat.reduceEqDiff,↓reduceIte,eq_self,Nat.reduceAdd,Nat.reduceMul,Nat.reduceSub,Nat.reduceLeDiff,Nat.reduceLT,defd,cellsOf,wr,packR,Int.reduceLE,Int.reduceLT,Int.reduceEq,Int.cast_ofNat_Int,Int.reduceToNat]
                refine (h5 r.2 161 w (by simp only [roomB]; omega)).sc (vs:=[.i .i64 161,.ptr 0 0,.ptr 1 0]) [2,5,3] (Lent.of (by decide) ?_) ?_
                · simp [lent_cons,lent_nil,pushs_cons,pushs_nil,push_mk,shb,shv,shvs,bnds,bnd,rnvs,rnv,gAt,vW,bw_map,mapAt_map,mapClo_it,mapClo_nil,mapClo_cons,vP,vZ,Tr.get_set,bnds_clo rN_clos,rnvs_clo rN_clos,bnd_clo,clo,rnv_clo]
                simp only [backH,List.cons_append,List.nil_append,List.length_cons,List.length_nil,Nat.zero_add,Nat.reduceAdd,List.take_succ_cons,List.take_zero,List.drop_succ_cons,List.drop_zero,List.map_cons,List.map_nil,rnb,rnvs,rnv,gAt,Nat.reduceLT,↓reduceIte,List.getD_cons_zero,List.getD_cons_succ,Nat.reduceSub,puts_cons,puts_nil,pushs_cons,pushs_nil,hput_mk,push_mk,rnvs_clo rN_clos,rnv_clo,clo]
                simp only [↓vS,cvF_pc,vP,shb,shv,shvs,she_nil,she_cons,vC,vQ,not_false_eq_true,Nat.reduceEqDiff,↓reduceIte,eq_self,Nat.reduceAdd,Nat.reduceMul,Nat.reduceSub,Nat.reduceLeDiff,Nat.reduceLT,defd,cellsOf,wr,packR,Int.reduceLE,Int.reduceLT,Int.reduceEq,Int.cast_ofNat_Int,Int.reduceToNat]
                refine S.weak (Wk.mk _ _ [0,1,2,7,4,6] ?_ ?_ ?_ rfl) (ostep_in h9 h10 false false false (wayI false) (words v) (memM E (readM w).1.name).1 j r.1 ⟨(readM w).1.name,0,(readM w).1.has⟩ w (r.2 ++ [noteW 161 w]) (by omega) (by omega) k1 (by omega) hk.1 rfl _ ?_)
                · simp [vW,bw_map,mapAt_map,mapClo_it,mapClo_nil,mapClo_cons,vP,vZ,Tr.get_set,hh,hm1]
                · simp [vW,bw_map,mapAt_map,mapClo_it,mapClo_nil,mapClo_cons,vP,vZ,Tr.get_set,oL,nvs_self,rN_clos,rC_clos,cWord,hh,hm1]
                · simp
                · intro t' h' hw
                  simp only [↓vS,cvF_pc,vP,shb,shv,shvs,she_nil,she_cons,vC,vQ,not_false_eq_true,Nat.reduceEqDiff,↓reduceIte,eq_self,Nat.reduceAdd,Nat.reduceMul,Nat.reduceSub,Nat.reduceLeDiff,Nat.reduceLT,defd,cellsOf,wr,packR,Int.reduceLE,Int.reduceLT,Int.reduceEq,Int.cast_ofNat_Int,Int.reduceToNat]
                  exact S.weak hw (ostep_up false false (wayI false) (words v) j (by omega) _ _ _ (fun t'' h'' hw'=>ih2 (by omega) (by omega) t'' h'' hw'))
              | true =>
                have hs:stepW E true false r w = ((memM E (readM w).1.name).1.foldl (stepN false 0) r.1,r.2 ++ [noteW 161 w]):=by
                  unfold stepW; rw [if_neg (by simp [e1]),if_neg (by simp [e2]),if_neg (by simp [hh]),if_pos (by decide),hin]
                rw [hs] at ih2
                simp only [↓vS,cvF_pc,vP,shb,shv,shvs,she_nil,she_cons,vC,vQ,not_false_eq_true,Nat.reduceEqDiff,↓reduceIte,eq_self,Nat.reduceAdd,Nat.reduceMul,Nat.reduceSub,Nat.reduceLeDiff,Nat.reduceLT,defd,cellsOf,wr,packR,Int.reduceLE,Int.reduceLT,Int.reduceEq,Int.cast_ofNat_Int,Int.reduceToNat]
                refine (h5 r.2 161 w (by simp only [roomB]; omega)).sc (vs:=[.i .i64 161,.ptr 0 0,.ptr 1 0]) [2,5,3] (Lent.of (by decide) ?_) ?_
                · simp [lent_cons,lent_nil,pushs_cons,pushs_nil,push_mk,shb,shv,shvs,bnds,bnd,rnvs,rnv,gAt,vW,bw_map,mapAt_map,mapClo_it,mapClo_nil,mapClo_cons,vP,vZ,Tr.get_set,bnds_clo rN_clos,rnvs_clo rN_clos,bnd_clo,clo,rnv_clo]
                simp only [backH,List.cons_append,List.nil_append,List.length_cons,List.length_nil,Nat.zero_add,Nat.reduceAdd,List.take_succ_cons,List.take_zero,List.drop_succ_cons,List.drop_zero,List.map_cons,List.map_nil,rnb,rnvs,rnv,gAt,Nat.reduceLT,↓reduceIte,List.getD_cons_zero,List.getD_cons_succ,Nat.reduceSub,puts_cons,puts_nil,pushs_cons,pushs_nil,hput_mk,push_mk,rnvs_clo rN_clos,rnv_clo,clo]
                simp only [↓vS,cvF_pc,vP,shb,shv,shvs,she_nil,she_cons,vC,vQ,not_false_eq_true,Nat.reduceEqDiff,↓reduceIte,eq_self,Nat.reduceAdd,Nat.reduceMul,Nat.reduceSub,Nat.reduceLeDiff,Nat.reduceLT,defd,cellsOf,wr,packR,Int.reduceLE,Int.reduceLT,Int.reduceEq,Int.cast_ofNat_Int,Int.reduceToNat]
                refine S.weak (Wk.mk _ _ [0,1,2,7,4,6] ?_ ?_ ?_ rfl) (ostep_in h9 h10 true false false (wayI false) (words v) (memM E (readM w).1.name).1 j r.1 ⟨(readM w).1.name,0,(readM w).1.has⟩ w (r.2 ++ [noteW 161 w]) (by omega) (by omega) k1 (by omega) hk.1 rfl _ ?_)
                · simp [vW,bw_map,mapAt_map,mapClo_it,mapClo_nil,mapClo_cons,vP,vZ,Tr.get_set,hh,hm1]
                · simp [vW,bw_map,mapAt_map,mapClo_it,mapClo_nil,mapClo_cons,vP,vZ,Tr.get_set,oL,nvs_self,rN_clos,rC_clos,cWord,hh,hm1]
                · simp
                · intro t' h' hw
                  simp only [↓vS,cvF_pc,vP,shb,shv,shvs,she_nil,she_cons,vC,vQ,not_false_eq_true,Nat.reduceEqDiff,↓reduceIte,eq_self,Nat.reduceAdd,Nat.reduceMul,Nat.reduceSub,Nat.reduceLeDiff,Nat.reduceLT,defd,cellsOf,wr,packR,Int.reduceLE,Int.reduceLT,Int.reduceEq,Int.cast_ofNat_Int,Int.reduceToNat]
                  exact S.weak hw (ostep_up true false (wayI false) (words v) j (by omega) _ _ _ (fun t'' h'' hw'=>ih2 (by omega) (by omega) t'' h'' hw'))
      · have hs:stepW E fl t r w = (r.1,r.2 ++ [noteW (memM E (readM w).1.name).2 w]):=by unfold stepW; rw [if_neg (by simp [e1]),if_pos e2]
        rw [hs] at ih2
        simp only [↓vS,cvF_pc,vP,shb,shv,shvs,she_nil,she_cons,vC,vQ,not_false_eq_true,Nat.reduceEqDiff,↓reduceIte,eq_self,Nat.reduceAdd,Nat.reduceMul,Nat.reduceSub,Nat.reduceLeDiff,Nat.reduceLT,defd,cellsOf,wr,packR,Int.reduceLE,Int.reduceLT,Int.reduceEq,Int.cast_ofNat_Int,Int.reduceToNat,e2]
        refine (h5 r.2 (memM E (readM w).1.name).2 w (by simp only [roomB]; omega)).sc (vs:=[.i .i64 (memM E (readM w).1.name).2,.ptr 0 0,.ptr 1 0]) [2,5,3] (Lent.of (by decide) ?_) ?_
        · simp [lent_cons,lent_nil,pushs_cons,pushs_nil,push_mk,shb,shv,shvs,bnds,bnd,rnvs,rnv,gAt,vW,bw_map,mapAt_map,mapClo_it,mapClo_nil,mapClo_cons,vP,vZ,Tr.get_set,bnds_clo rN_clos,rnvs_clo rN_clos,bnd_clo,clo,rnv_clo]
        simp only [backH,List.cons_append,List.nil_append,List.length_cons,List.length_nil,Nat.zero_add,Nat.reduceAdd,List.take_succ_cons,List.take_zero,List.drop_succ_cons,List.drop_zero,List.map_cons,List.map_nil,rnb,rnvs,rnv,gAt,Nat.reduceLT,↓reduceIte,List.getD_cons_zero,List.getD_cons_succ,Nat.reduceSub,puts_cons,puts_nil,pushs_cons,pushs_nil,hput_mk,push_mk,rnvs_clo rN_clos,rnv_clo,clo]
        simp only [↓vS,cvF_pc,vP,shb,shv,shvs,she_nil,she_cons,vC,vQ,not_false_eq_true,Nat.reduceEqDiff,↓reduceIte,eq_self,Nat.reduceAdd,Nat.reduceMul,Nat.reduceSub,Nat.reduceLeDiff,Nat.reduceLT,defd,cellsOf,wr,packR,Int.reduceLE,Int.reduceLT,Int.reduceEq,Int.cast_ofNat_Int,Int.reduceToNat]
        refine S.weak (Wk.mk _ _ [0,1,2,7,4] ?_ ?_ ?_ rfl) (ostep_up fl t (wayI t) (words v) j (by omega) r.1 (r.2 ++ [noteW (memM E (readM w).1.name).2 w]) _ (fun t' h' hw=>ih2 (by omega) (by omega) t' h' hw))
        · simp [vW,bw_map,mapAt_map,mapClo_it,mapClo_nil,mapClo_cons,vP,vZ,Tr.get_set]
        · simp [vW,bw_map,mapAt_map,mapClo_it,mapClo_nil,mapClo_cons,vP,vZ,Tr.get_set,oL,nvs_self,rN_clos,rC_clos]
        · simp
    · have hs:stepW E fl t r w = (r.1,r.2 ++ [noteW (readM w).2 w]):=by unfold stepW; rw [if_pos e1]
      rw [hs] at ih2
      simp only [↓vS,cvF_pc,vP,shb,shv,shvs,she_nil,she_cons,vC,vQ,not_false_eq_true,Nat.reduceEqDiff,↓reduceIte,eq_self,Nat.reduceAdd,Nat.reduceMul,Nat.reduceSub,Nat.reduceLeDiff,Nat.reduceLT,defd,cellsOf,wr,packR,Int.reduceLE,Int.reduceLT,Int.reduceEq,Int.cast_ofNat_Int,Int.reduceToNat,e1]
      refine (h5 r.2 (readM w).2 w (by simp only [roomB]; omega)).sc (vs:=[.i .i64 (readM w).2,.ptr 0 0,.ptr 1 0]) [2,5,3] (Lent.of (by decide) ?_) ?_
      · simp [lent_cons,lent_nil,pushs_cons,pushs_nil,push_mk,shb,shv,shvs,bnds,bnd,rnvs,rnv,gAt,vW,bw_map,mapAt_map,mapClo_it,mapClo_nil,mapClo_cons,vP,vZ,Tr.get_set,bnds_clo rN_clos,rnvs_clo rN_clos,bnd_clo,clo,rnv_clo]
      simp only [backH,List.cons_append,List.nil_append,List.length_cons,List.length_nil,Nat.zero_add,Nat.reduceAdd,List.take_succ_cons,List.take_zero,List.drop_succ_cons,List.drop_zero,List.map_cons,List.map_nil,rnb,rnvs,rnv,gAt,Nat.reduceLT,↓reduceIte,List.getD_cons_zero,List.getD_cons_succ,Nat.reduceSub,puts_cons,puts_nil,pushs_cons,pushs_nil,hput_mk,push_mk,rnvs_clo rN_clos,rnv_clo,clo]
      simp only [↓vS,cvF_pc,vP,shb,shv,shvs,she_nil,she_cons,vC,vQ,not_false_eq_true,Nat.reduceEqDiff,↓reduceIte,eq_self,Nat.reduceAdd,Nat.reduceMul,Nat.reduceSub,Nat.reduceLeDiff,Nat.reduceLT,defd,cellsOf,wr,packR,Int.reduceLE,Int.reduceLT,Int.reduceEq,Int.cast_ofNat_Int,Int.reduceToNat]
      refine S.weak (Wk.mk _ _ [0,1,2,7,4] ?_ ?_ ?_ rfl) (ostep_up fl t (wayI t) (words v) j (by omega) r.1 (r.2 ++ [noteW (readM w).2 w]) _ (fun t' h' hw=>ih2 (by omega) (by omega) t' h' hw))
      · simp [vW,bw_map,mapAt_map,mapClo_it,mapClo_nil,mapClo_cons,vP,vZ,Tr.get_set]
      · simp [vW,bw_map,mapAt_map,mapClo_it,mapClo_nil,mapClo_cons,vP,vZ,Tr.get_set,oL,nvs_self,rN_clos,rC_clos]
      · simp
  · have hjl:(words v).take j = words v:=List.take_of_length_le (by omega)
    rw [hjl] at hr
    rw [hr]
    simp only [oL]
    simp only [↓vS,cvF_pc,vP,shb,shv,shvs,she_nil,she_cons,vC,vQ,not_false_eq_true,Nat.reduceEqDiff,↓reduceIte,eq_self,Nat.reduceAdd,Nat.reduceMul,Nat.reduceSub,Nat.reduceLeDiff,Nat.reduceLT,defd,cellsOf,wr,packR,Int.reduceLE,Int.reduceLT,Int.reduceEq,Int.cast_ofNat_Int,Int.reduceToNat,hlt]
    refine VD_pc ?_
    simp only [↓vS,cvF_pc,vP,shb,shv,shvs,she_nil,she_cons,vC,vQ,not_false_eq_true,Nat.reduceEqDiff,↓reduceIte,eq_self,Nat.reduceAdd,Nat.reduceMul,Nat.reduceSub,Nat.reduceLeDiff,Nat.reduceLT,defd,cellsOf,wr,packR,Int.reduceLE,Int.reduceLT,Int.reduceEq,Int.cast_ofNat_Int,Int.reduceToNat,not_false_eq_true]
    intro _
    refine ⟨[4,3],?_⟩
    simp [vW,bw_map,mapAt_map,mapClo_it,mapClo_nil,mapClo_cons,vP,vZ,Tr.get_set,oL,nvs_self,rN_clos,rC_clos]
end Go.Kc
end
section
/- What fold.Step answers, its list in a row of its own, whole. Condition: the functions' texts are these. -/
namespace Go.Kc
variable {P:Program} {f:Nat}
theorem ostep_own {g1 g2 g3 g4 g5 g6 g7 g8 g9 g10:Nat} {E:List UInt8 → List (List UInt8) × Int} (hc:chkFn P f (ir_fold_Step g1 g2 g3 g4 g5 g6 g7 g8 g9 g10) = true) (hE:ExpOk E) (h1:cCop P g1) (h2:cMay P g2) (h3:cWords P g3) (h4:cTurned P g4) (h5:cStep1 P g5) (h6:cRead P g6) (h7:cExp (memM E) P g7) (h8:cIns P g8) (h9:cPutL P g9) (h10:cTakeL P g10):cStepL E P f:=by
  intro l v fl hl hv hm0
  have htl:=turnP_len v
  refine Own.mk hc rfl ?_
  simp only [ir_fold_Step,cList,argsT,H0,mkT,mkH,trL,List.length_cons,List.length_nil,Nat.reduceAdd,Nat.zero_add]
  simp only [↓vS,cvF_pc,vP,shb,shv,shvs,she_nil,she_cons,vC,vQ,not_false_eq_true,Nat.reduceEqDiff,↓reduceIte,eq_self,Nat.reduceAdd,Nat.reduceMul,Nat.reduceSub,Nat.reduceLeDiff,Nat.reduceLT,defd,cellsOf,wr,packR,Int.reduceLE,Int.reduceLT,Int.reduceEq,Int.cast_ofNat_Int,Int.reduceToNat]
  refine (h1 l hl).sc ?_
  simp only [pushs_cons,pushs_nil,push_mk,shb,shv,shvs,she_nil,she_cons,List.map_cons,List.map_nil,up_mk,down_mk,Nat.reduceAdd,Nat.zero_add,shvs_clo rC_clos]
  simp only [↓vS,cvF_pc,vP,shb,shv,shvs,she_nil,she_cons,vC,vQ,not_false_eq_true,Nat.reduceEqDiff,↓reduceIte,eq_self,Nat.reduceAdd,Nat.reduceMul,Nat.reduceSub,Nat.reduceLeDiff,Nat.reduceLT,defd,cellsOf,wr,packR,Int.reduceLE,Int.reduceLT,Int.reduceEq,Int.cast_ofNat_Int,Int.reduceToNat]
  refine (h2 l hl).lend (vs':=[.agg (cList l)]) ?_ rfl ?_
  · simp [vZ,vP,Tr.get_set,cList,frzs_self rC_clos]
    intro h0; rw [h0]; rfl
  cases hM:mayM l with
  | false =>
    have hs:stepM E l v fl = (l,[]):=if_pos hM
    rw [hs]
    simp only [↓vS,cvF_pc,vP,shb,shv,shvs,she_nil,she_cons,vC,vQ,not_false_eq_true,Nat.reduceEqDiff,↓reduceIte,eq_self,Nat.reduceAdd,Nat.reduceMul,Nat.reduceSub,Nat.reduceLeDiff,Nat.reduceLT,defd,cellsOf,wr,packR,Int.reduceLE,Int.reduceLT,Int.reduceEq,Int.cast_ofNat_Int,Int.reduceToNat]
    intro _
    refine ⟨[2,3],?_⟩
    simp [vW,bw_map,mapAt_map,mapClo_it,mapClo_nil,mapClo_cons,vP,vZ,Tr.get_set,cList,nvs_self,rC_clos,rN]
  | true =>
    have hmm:=((mayM_iff l).1 hM).1
    simp only [↓vS,cvF_pc,vP,shb,shv,shvs,she_nil,she_cons,vC,vQ,not_false_eq_true,Nat.reduceEqDiff,↓reduceIte,eq_self,Nat.reduceAdd,Nat.reduceMul,Nat.reduceSub,Nat.reduceLeDiff,Nat.reduceLT,defd,cellsOf,wr,packR,Int.reduceLE,Int.reduceLT,Int.reduceEq,Int.cast_ofNat_Int,Int.reduceToNat]
    refine (h3 v (by omega)).sc ?_
    by_cases hw:words v = []
    · have hs:stepM E l v fl = (⟨0,[]⟩,[]):=by unfold stepM; rw [if_neg (by simp [hM]),if_pos hw]
      rw [hs]
      simp only [↓vS,cvF_pc,vP,shb,shv,shvs,she_nil,she_cons,vC,vQ,not_false_eq_true,Nat.reduceEqDiff,↓reduceIte,eq_self,Nat.reduceAdd,Nat.reduceMul,Nat.reduceSub,Nat.reduceLeDiff,Nat.reduceLT,defd,cellsOf,wr,packR,Int.reduceLE,Int.reduceLT,Int.reduceEq,Int.cast_ofNat_Int,Int.reduceToNat,hw,List.length_nil]
      intro _
      refine ⟨[3,4],?_⟩
      simp [vW,bw_map,mapAt_map,mapClo_it,mapClo_nil,mapClo_cons,vP,vZ,Tr.get_set,cList,nvs_self,rC,rN]
    · have hwn:¬ ((words v).length:Int) = 0:=by have:=List.length_pos_iff.2 hw; omega
      have hs:stepM E l v fl = (words (turnP v).1).foldl (stepW E fl (turnP v).2) (⟨if l.mode = 0 then (if (turnP v).2 = true then 2 else 1) else l.mode,l.calls⟩,[]):=by
        unfold stepM; rw [if_neg (by simp [hM]),if_neg hw]
      rw [hs]
      simp only [↓vS,cvF_pc,vP,shb,shv,shvs,she_nil,she_cons,vC,vQ,not_false_eq_true,Nat.reduceEqDiff,↓reduceIte,eq_self,Nat.reduceAdd,Nat.reduceMul,Nat.reduceSub,Nat.reduceLeDiff,Nat.reduceLT,defd,cellsOf,wr,packR,Int.reduceLE,Int.reduceLT,Int.reduceEq,Int.cast_ofNat_Int,Int.reduceToNat,hwn]
      refine (h4 v).sc ?_
      rw [cut_turn]
      have key:∀ (m:Int),m = (if l.mode = 0 then (if (turnP v).2 = true then 2 else 1) else l.mode) → mayM ⟨m,l.calls⟩ = true ∧ (m = 1 ∨ m = 2):=by
        intro m hm
        have h12:m = 1 ∨ m = 2:=by
          rw [hm]; split
          · split <;> simp
          · have:=hmm.1; omega
        obtain ⟨_,a1,a2⟩:=(mayM_iff l).1 hM
        exact ⟨(mayM_iff _).2 ⟨⟨by dsimp only; omega,.inl (by dsimp only; omega)⟩,a1,a2⟩,h12⟩
      cases ht:(turnP v).2 with
      | true =>
        by_cases h0:l.mode = 0
        · have hu:IntKind.wrap .u8 (1 + 1) = 2:=by decide
          have hu1:IntKind.wrap .u8 1 = 1:=by decide
          obtain ⟨k1,k2⟩:=key 2 (by rw [h0,ht]; rfl)
          rw [show (if l.mode = 0 then (if true = true then (2:Int) else 1) else l.mode) = 2 from by rw [h0]; rfl]
          simp only [↓vS,cvF_pc,vP,shb,shv,shvs,she_nil,she_cons,vC,vQ,not_false_eq_true,Nat.reduceEqDiff,↓reduceIte,eq_self,Nat.reduceAdd,Nat.reduceMul,Nat.reduceSub,Nat.reduceLeDiff,Nat.reduceLT,defd,cellsOf,wr,packR,Int.reduceLE,Int.reduceLT,Int.reduceEq,Int.cast_ofNat_Int,Int.reduceToNat,h0,hu,hu1]
          refine S.weak (Wk.mk _ _ [0,1,3,4,2] ?_ ?_ ?_ rfl) (ostep_c9 hE h3 h5 h6 h7 h8 h9 h10 fl true (turnP v).1 (by omega) ⟨2,l.calls⟩ k1 k2)
          · simp [vW,bw_map,mapAt_map,mapClo_it,mapClo_nil,mapClo_cons,vP,vZ,Tr.get_set,wayI]
          · simp [vW,bw_map,mapAt_map,mapClo_it,mapClo_nil,mapClo_cons,vP,vZ,Tr.get_set,oL,nvs_self,rC_clos]
          · simp
        · obtain ⟨k1,k2⟩:=key l.mode (by rw [if_neg h0])
          rw [show (if l.mode = 0 then (if true = true then (2:Int) else 1) else l.mode) = l.mode from if_neg h0]
          simp only [↓vS,cvF_pc,vP,shb,shv,shvs,she_nil,she_cons,vC,vQ,not_false_eq_true,Nat.reduceEqDiff,↓reduceIte,eq_self,Nat.reduceAdd,Nat.reduceMul,Nat.reduceSub,Nat.reduceLeDiff,Nat.reduceLT,defd,cellsOf,wr,packR,Int.reduceLE,Int.reduceLT,Int.reduceEq,Int.cast_ofNat_Int,Int.reduceToNat,h0]
          refine S.weak (Wk.mk _ _ [0,1,3,4,2] ?_ ?_ ?_ rfl) (ostep_c9 hE h3 h5 h6 h7 h8 h9 h10 fl true (turnP v).1 (by omega) ⟨l.mode,l.calls⟩ k1 k2)
          · simp [vW,bw_map,mapAt_map,mapClo_it,mapClo_nil,mapClo_cons,vP,vZ,Tr.get_set,wayI]
          · simp [vW,bw_map,mapAt_map,mapClo_it,mapClo_nil,mapClo_cons,vP,vZ,Tr.get_set,oL,nvs_self,rC_clos]
          · simp
      | false =>
        by_cases h0:l.mode = 0
        · have hu:IntKind.wrap .u8 (1 + 0) = 1:=by decide
          have hu1:IntKind.wrap .u8 0 = 0:=by decide
          obtain ⟨k1,k2⟩:=key 1 (by rw [h0,ht]; rfl)
          rw [show (if l.mode = 0 then (if false = true then (2:Int) else 1) else l.mode) = 1 from by rw [h0]; rfl]
          simp only [↓vS,cvF_pc,vP,shb,shv,shvs,she_nil,she_cons,vC,vQ,not_false_eq_true,Nat.reduceEqDiff,↓reduceIte,eq_self,Nat.reduceAdd,Nat.reduceMul,Nat.reduceSub,Nat.reduceLeDiff,Nat.reduceLT,defd,cellsOf,wr,packR,Int.reduceLE,Int.reduceLT,Int.reduceEq,Int.cast_ofNat_Int,Int.reduceToNat,h0,hu,hu1]
          refine S.weak (Wk.mk _ _ [0,1,3,4,2] ?_ ?_ ?_ rfl) (ostep_c9 hE h3 h5 h6 h7 h8 h9 h10 fl false (turnP v).1 (by omega) ⟨1,l.calls⟩ k1 k2)
          · simp [vW,bw_map,mapAt_map,mapClo_it,mapClo_nil,mapClo_cons,vP,vZ,Tr.get_set,wayI]
          · simp [vW,bw_map,mapAt_map,mapClo_it,mapClo_nil,mapClo_cons,vP,vZ,Tr.get_set,oL,nvs_self,rC_clos]
          · simp
        · obtain ⟨k1,k2⟩:=key l.mode (by rw [if_neg h0])
          rw [show (if l.mode = 0 then (if false = true then (2:Int) else 1) else l.mode) = l.mode from if_neg h0]
          simp only [↓vS,cvF_pc,vP,shb,shv,shvs,she_nil,she_cons,vC,vQ,not_false_eq_true,Nat.reduceEqDiff,↓reduceIte,eq_self,Nat.reduceAdd,Nat.reduceMul,Nat.reduceSub,Nat.reduceLeDiff,Nat.reduceLT,defd,cellsOf,wr,packR,Int.reduceLE,Int.reduceLT,Int.reduceEq,Int.cast_ofNat_Int,Int.reduceToNat,h0]
          refine S.weak (Wk.mk _ _ [0,1,3,4,2] ?_ ?_ ?_ rfl) (ostep_c9 hE h3 h5 h6 h7 h8 h9 h10 fl false (turnP v).1 (by omega) ⟨l.mode,l.calls⟩ k1 k2)
          · simp [vW,bw_map,mapAt_map,mapClo_it,mapClo_nil,mapClo_cons,vP,vZ,Tr.get_set,wayI]
          · simp [vW,bw_map,mapAt_map,mapClo_it,mapClo_nil,mapClo_cons,vP,vZ,Tr.get_set,oL,nvs_self,rC_clos]
          · simp
theorem cStep_ofL {E:List UInt8 → List (List UInt8) × Int} (h:cStepL E P f):cStep E P f:=by
  intro l v fl hl hv hm
  refine (h l v fl hl hv hm).pure rfl ?_
  simp only [H0,pushs_cons,pushs_nil,push_mk,shb,shv,shvs,she_nil,she_cons,List.map_cons,List.map_nil,up_mk,down_mk,Nat.reduceAdd,Nat.zero_add]
  simp [vZ,vP,Tr.get_set,cList,frzs_self rC_clos,frzs_self rN_clos,shvs_clo rC_clos,shvs_clo rN_clos,shvs,shv]
  constructor <;> (intro h0; rw [h0]; rfl)
end Go.Kc
end
section
/- FoldLists: what the law answers. Condition: the functions' texts are these. -/
namespace Go.Kc
variable {P:Program} {f:Nat}
def cPutO (P:Program) (f:Nat):Prop:=∀ (l:GList) (s:List UInt8) (n:Int),l.calls.length ≤ 100000 → OwnL P f [.agg (cList l),.s s,.i .u32 n] (.agg [.i .u8 (putM l s n).mode,.own 0 (putM l s n).calls.length]) [.cells 2 true true (rC (putM l s n).calls)]
def cTakeO (P:Program) (f:Nat):Prop:=∀ (l:GList) (s:List UInt8),l.calls.length ≤ 100000 → OwnL P f [.agg (cList l),.s s] (.agg [.i .u8 (takeM l s).mode,.own 0 (takeM l s).calls.length]) [.cells 2 true true (rC (takeM l s).calls)]
def ir_vestibulelaw16_spoil:IFn:=⟨[],
  .seq (.reg false [⟨(some 1),.op (.box (.t 0)),none⟩])
  (.seq (.reg false [⟨(some 2),.op (.mov (.c (.i .i64 0))),none⟩])
  (.blk 0 (.loop (.seq (.seq (.reg false [⟨(some 3),.op (.mov (.t 2)),none⟩,
    ⟨(some 4),.op (.fAddr 1 (.t 1)),none⟩,
    ⟨(some 5),.op (.load1 (.t 4)),none⟩,
    ⟨(some 6),.op (.len false (.t 5)),none⟩,
    ⟨(some 7),.op (.bin .lss (.t 3) (.t 6)),none⟩])
  (.cond (.t 7) (.skip) (.exit 0)))
  (.seq (.blk 1 (.reg false [⟨(some 10),.op (.fAddr 1 (.t 1)),none⟩,
    ⟨(some 11),.op (.load1 (.t 10)),none⟩,
    ⟨(some 12),.op (.mov (.t 2)),none⟩,
    ⟨(some 13),.op (.iAddrS 2 (.t 11) (.t 12)),none⟩,
    ⟨(some 14),.op (.fAddr 0 (.t 13)),none⟩,
    ⟨none,.op (.store 1 (.t 14) (.c (.s [103,111,110,101]))),none⟩]))
  (.reg false [⟨(some 8),.op (.mov (.t 2)),none⟩,
    ⟨(some 9),.op (.bin .add (.t 8) (.c (.i .i64 1))),none⟩,
    ⟨(some 2),.op (.mov (.t 9)),none⟩]))))))⟩
def gone (c:GCall):GCall:=⟨[103,111,110,101],c.act⟩
theorem rC_set0 {L:List GCall} {j:Nat} {c:GCall} (h:L[j]? = some c) (s:List UInt8):(rC L).take (j * 2) ++ (AV.s s :: (rC L).drop (j * 2 + 1)) = rC (L.set j ⟨s,c.act⟩):=by
  obtain ⟨hj,hc⟩:=List.getElem?_eq_some_iff.1 h
  have e1:L = L.take j ++ c :: L.drop (j + 1):=by rw [← hc,← List.drop_eq_getElem_cons hj,List.take_append_drop]
  have hl:(rC (L.take j)).length = j * 2:=by rw [rC_len,List.length_take]; omega
  have e2:rC L = rC (L.take j) ++ (AV.s c.name :: AV.i .u32 c.act :: rC (L.drop (j + 1))):=by conv=>lhs; rw [e1,← rC_app,rC_cons]
  rw [List.set_eq_take_append_cons_drop,if_pos hj,← rC_app,rC_cons,e2,List.take_left' hl,← List.drop_drop,List.drop_left' hl]
  rfl
def cSpoil (P:Program) (f:Nat):Prop:=∀ (m:Int) (L:List GCall),L.length ≤ 100000 → Upd P f [.agg [.i .u8 m,.own 0 L.length]] [.cells 2 true true (rC L)] (.tup []) [.cells 2 true true (rC (L.map gone))]
theorem spoil_upd (hc:chkFn P f ir_vestibulelaw16_spoil = true):cSpoil P f:=by
  intro m L hL
  refine Upd.mk hc (by simp [bnds,bnd]) (by simp) ?_
  simp only [ir_vestibulelaw16_spoil,argsT,H0,mkT,mkH,trL,List.length_cons,List.length_nil,Nat.reduceAdd,Nat.zero_add]
  simp only [↓vS,cvF_pc,vP,shb,shv,shvs,she_nil,she_cons,vC,vQ,not_false_eq_true,Nat.reduceEqDiff,↓reduceIte,eq_self,Nat.reduceAdd,Nat.reduceMul,Nat.reduceSub,Nat.reduceLeDiff,Nat.reduceLT,defd,cellsOf,wr,packR,Int.reduceLE,Int.reduceLT,Int.reduceEq,Int.cast_ofNat_Int,Int.reduceToNat]
  refine SL.loopn (α:=Nat) (fun j=>[(1,.ptr 1 0),(2,.i .i64 j)]) (fun j=>[.cells 2 true true (rC ((L.take j).map gone ++ L.drop j)),.cells 0 true false [.i .u8 m,.own 0 L.length]]) (fun j=>j ≤ L.length) (fun j=>L.length - j) 0 [0,1] ?_ ?_ ?_ rfl (by simp) ?_ ?_ ?_
  · simp [vW,bw_map,mapAt_map,mapClo_it,mapClo_nil,mapClo_cons,vP,vZ,Tr.get_set]
  · simp [vW,bw_map,mapAt_map,mapClo_it,mapClo_nil,mapClo_cons,vP,vZ,Tr.get_set,nvs_self,rC_clos]
  · simp [vW,bw_map,mapAt_map,mapClo_it,mapClo_nil,mapClo_cons,vP,vZ,Tr.get_set]
  · intro b hb; obtain rfl:b = 0:=by simpa using hb
    simp [rl_0]
  · exact Nat.zero_le _
  rintro j hj G ih
  simp only [argsT,H0,mkT,mkH,trL,List.length_cons,List.length_nil,Nat.reduceAdd,Nat.zero_add]
  by_cases hlt:j < L.length
  · have hw:IntKind.wrap .i64 ((j:Int) + 1) = ((j + 1:Nat):Int):=by rw [wrap64 (by omega) (by omega)]; omega
    have hal:((L.take j).map gone).length = j:=by simp; omega
    have hx:((L.take j).map gone ++ L.drop j)[j]? = some L[j]:=by
      rw [List.getElem?_append_right (by omega),hal]; simp [hlt]
    have hs:=rC_set0 hx [103,111,110,101]
    have hset:((L.take j).map gone ++ L.drop j).set j ⟨[103,111,110,101],L[j].act⟩ = (L.take (j + 1)).map gone ++ L.drop (j + 1):=by
      rw [List.set_append,if_neg (by omega),hal,Nat.sub_self,List.drop_eq_getElem_cons hlt,List.set_cons_zero,List.take_add_one,List.getElem?_eq_getElem hlt,List.map_append,List.append_assoc]
      rfl
    rw [hset] at hs
    have hll:(rC ((L.take j).map gone ++ L.drop j)).length = L.length * 2:=by rw [rC_len]; simp; omega
    have hb:j * 2 + 1 ≤ L.length * 2:=by omega
    simp (decide:=true) only [↓vS,cvF_pc,vP,shb,shv,shvs,she_nil,she_cons,vC,vQ,not_false_eq_true,Nat.reduceEqDiff,↓reduceIte,eq_self,Nat.reduceAdd,Nat.reduceMul,Nat.reduceSub,Nat.reduceLeDiff,Nat.reduceLT,defd,cellsOf,wr,packR,Int.reduceLE,Int.reduceLT,Int.reduceEq,Int.cast_ofNat_Int,Int.reduceToNat,hlt,hll,hb,hs,hw]
    refine ih (j + 1) (by omega) (by omega) _ _ (Wk.mkn _ _ [0,1] ?_ ?_ ?_ rfl (by simp) ?_)
    · simp [vW,bw_map,mapAt_map,mapClo_it,mapClo_nil,mapClo_cons,vP,vZ,Tr.get_set]
    · simp [vW,bw_map,mapAt_map,mapClo_it,mapClo_nil,mapClo_cons,vP,vZ,Tr.get_set,nvs_self,rC_clos]
    · simp [vW,bw_map,mapAt_map,mapClo_it,mapClo_nil,mapClo_cons,vP,vZ,Tr.get_set]
    · intro b hb; obtain rfl:b = 0:=by simpa using hb
      simp [rl_0]
  · have hjl:L.take j = L:=List.take_of_length_le (by omega)
    have hdl:L.drop j = []:=List.drop_of_length_le (by omega)
    rw [hjl,hdl,List.append_nil]
    simp only [↓vS,cvF_pc,vP,shb,shv,shvs,she_nil,she_cons,vC,vQ,not_false_eq_true,Nat.reduceEqDiff,↓reduceIte,eq_self,Nat.reduceAdd,Nat.reduceMul,Nat.reduceSub,Nat.reduceLeDiff,Nat.reduceLT,defd,cellsOf,wr,packR,Int.reduceLE,Int.reduceLT,Int.reduceEq,Int.cast_ofNat_Int,Int.reduceToNat,hlt]
    intro _
    refine ⟨[0],?_⟩
    simp [vW,bw_map,mapAt_map,mapClo_it,mapClo_nil,mapClo_cons,vP,vZ,Tr.get_set,nvs_self,rC_clos]
end Go.Kc
end
section
/- FoldSteps: what the law answers. Condition: the functions' texts are these. -/
namespace Go.Kc
variable {P:Program} {f:Nat}
theorem stepM_calls {E:List UInt8 → List (List UInt8) × Int} (hE:ExpOk E) (l:GList) (hl:l.calls.length ≤ 1000) (v:List UInt8) (fl:Bool):(stepM E l v fl).1.calls.length ≤ 100000:=by
  cases hM:mayM l with
  | true=>have:=may_len (stepM_may hE hM v fl); omega
  | false =>
    have hs:stepM E l v fl = (l,[]):=if_pos hM
    rw [hs]
    show l.calls.length ≤ 100000
    omega
def ir_vestibulelaw16_FoldSteps (f_vestibulelaw16_Great f_vestibulelaw16_Copied f_fold_Step f_vestibuleref16_Step f_vestibuleref16_Same f_vestibulelaw13_SameNotes f_vestibulelaw16_spoil f_vestibulelaw16_awake:Nat):IFn:=⟨[.tmp 6],
  .seq (.reg false [⟨(some 3),.op (.box (.t 0)),none⟩,
    ⟨(some 6),.op (.mov (.c (.b false))),none⟩])
  (.seq (.seq (.reg false [⟨(some 13),.op (.loadN 2 (.t 3)),none⟩,
    ⟨(some 14),.callF f_vestibulelaw16_Great [(.t 13)],none⟩,
    ⟨(some 15),.op (.mov (.t 14)),none⟩,
    ⟨(some 16),.op (.mov (.t 1)),(some (15,false))⟩,
    ⟨(some 17),.op (.len true (.t 16)),(some (15,false))⟩,
    ⟨(some 18),.op (.bin .gtr (.t 17) (.c (.i .i64 1000))),(some (15,false))⟩,
    ⟨(some 19),.op (.pick (.t 15) (.c (.b true)) (.t 18)),none⟩])
  (.cond (.t 19) (.seq (.reg false [⟨(some 6),.op (.mov (.c (.b true))),none⟩])
  (.ret)) (.skip)))
  (.seq (.reg false [⟨(some 20),.op (.loadN 2 (.t 3)),none⟩,
    ⟨(some 21),.callF f_vestibulelaw16_Copied [(.t 20)],none⟩,
    ⟨(some 7),.op (.alloc [.i .u8 0,.nils]),none⟩,
    ⟨none,.op (.store 2 (.t 7) (.t 21)),none⟩])
  (.seq (.reg false [⟨(some 23),.op (.loadN 2 (.t 7)),none⟩,
    ⟨(some 24),.op (.mov (.t 1)),none⟩,
    ⟨(some 25),.op (.mov (.t 2)),none⟩,
    ⟨(some 26),.callF f_fold_Step [(.t 23),(.t 24),(.t 25)],none⟩,
    ⟨(some 22),.op (.mov (.t 26)),none⟩,
    ⟨(some 27),.op (.ext (.t 22) 0),none⟩,
    ⟨(some 28),.op (.ext (.t 22) 1),none⟩,
    ⟨(some 8),.op (.alloc [.i .u8 0,.nils]),none⟩,
    ⟨none,.op (.store 2 (.t 8) (.t 27)),none⟩,
    ⟨(some 9),.op (.mov (.t 28)),none⟩])
  (.seq (.reg false [⟨(some 30),.op (.loadN 2 (.t 3)),none⟩,
    ⟨(some 31),.op (.mov (.t 1)),none⟩,
    ⟨(some 32),.op (.mov (.t 2)),none⟩,
    ⟨(some 33),.callF f_vestibuleref16_Step [(.t 30),(.t 31),(.t 32)],none⟩,
    ⟨(some 29),.op (.mov (.t 33)),none⟩,
    ⟨(some 34),.op (.ext (.t 29) 0),none⟩,
    ⟨(some 35),.op (.ext (.t 29) 1),none⟩,
    ⟨(some 10),.op (.alloc [.i .u8 0,.nils]),none⟩,
    ⟨none,.op (.store 2 (.t 10) (.t 34)),none⟩,
    ⟨(some 11),.op (.mov (.t 35)),none⟩])
  (.seq (.reg false [⟨(some 36),.op (.loadN 2 (.t 8)),none⟩,
    ⟨(some 37),.op (.loadN 2 (.t 10)),none⟩,
    ⟨(some 38),.callF f_vestibuleref16_Same [(.t 36),(.t 37)],none⟩,
    ⟨(some 39),.op (.mov (.t 38)),none⟩,
    ⟨(some 40),.op (.mov (.t 9)),(some (39,true))⟩,
    ⟨(some 41),.op (.mov (.t 11)),(some (39,true))⟩,
    ⟨(some 42),.callF f_vestibulelaw13_SameNotes [(.t 40),(.t 41)],(some (39,true))⟩,
    ⟨(some 43),.op (.pick (.t 39) (.t 42) (.c (.b false))),none⟩,
    ⟨(some 12),.op (.mov (.t 43)),none⟩])
  (.seq (.reg false [⟨(some 44),.op (.loadN 2 (.t 8)),none⟩,
    ⟨(some 45),.callF f_vestibulelaw16_spoil [(.t 44)],none⟩])
  (.seq (.reg false [⟨(some 46),.op (.mov (.t 12)),none⟩,
    ⟨(some 47),.op (.mov (.t 46)),none⟩,
    ⟨(some 48),.op (.loadN 2 (.t 7)),(some (47,true))⟩,
    ⟨(some 49),.op (.loadN 2 (.t 3)),(some (47,true))⟩,
    ⟨(some 50),.callF f_vestibuleref16_Same [(.t 48),(.t 49)],(some (47,true))⟩,
    ⟨(some 51),.op (.pick (.t 47) (.t 50) (.c (.b false))),none⟩,
    ⟨(some 52),.op (.mov (.t 51)),none⟩,
    ⟨(some 53),.callF f_vestibulelaw16_awake [],(some (52,true))⟩,
    ⟨(some 54),.op (.pick (.t 52) (.t 53) (.c (.b false))),none⟩,
    ⟨(some 6),.op (.mov (.t 54)),none⟩])
  (.ret))))))))⟩
theorem foldSteps {g1 g2 g3 g4 g5 g6 g7 g8:Nat} {E:List UInt8 → List (List UInt8) × Int} (hc:chkFn P f (ir_vestibulelaw16_FoldSteps g1 g2 g3 g4 g5 g6 g7 g8) = true) (hE:ExpOk E) (h1:cGreat16 P g1) (h2:∀ l:GList,l.calls.length ≤ 1000 → Pure P g2 [.agg (cList l)] (.agg (cList l))) (h3:cStepL E P g3) (h4:cStepR E P g4)
    (h5:∀ l:GList,l.calls.length ≤ 100000 → Pure P g5 [.agg (cList l),.agg (cList l)] (.b true)) (h6:∀ l:List GNote,l.length ≤ 100000 → Pure P g6 [.fz l.length (rN l),.fz l.length (rN l)] (.b true)) (h7:cSpoil P g7) (h8:Pure P g8 [] (.b true))
    (l:GList) (v:List UInt8) (fl:Bool) (hm:0 ≤ l.mode ∧ Rng l.calls):Pure P f [.agg (cList l),.s v,.b fl] (.b true):=by
  refine Pure.mk hc rfl ?_
  simp only [ir_vestibulelaw16_FoldSteps,cList,argsT,H0,mkT,mkH,trL,List.length_cons,List.length_nil,Nat.reduceAdd,Nat.zero_add]
  simp only [↓vS,cvF_pc,vP,shb,shv,shvs,she_nil,she_cons,vC,vQ,not_false_eq_true,Nat.reduceEqDiff,↓reduceIte,eq_self,Nat.reduceAdd,Nat.reduceMul,Nat.reduceSub,Nat.reduceLeDiff,Nat.reduceLT,defd,cellsOf,wr,packR,Int.reduceLE,Int.reduceLT,Int.reduceEq,Int.cast_ofNat_Int,Int.reduceToNat]
  refine (h1 l).sc ?_
  cases hg:great16 l with
  | true =>
    simp only [↓vS,cvF_pc,vP,shb,shv,shvs,she_nil,she_cons,vC,vQ,not_false_eq_true,Nat.reduceEqDiff,↓reduceIte,eq_self,Nat.reduceAdd,Nat.reduceMul,Nat.reduceSub,Nat.reduceLeDiff,Nat.reduceLT,defd,cellsOf,wr,packR,Int.reduceLE,Int.reduceLT,Int.reduceEq,Int.cast_ofNat_Int,Int.reduceToNat]
    simp [vZ]
  | false =>
    have hl:=great16_len hg
    by_cases hv:(1000:Int) < v.length
    · simp only [↓vS,cvF_pc,vP,shb,shv,shvs,she_nil,she_cons,vC,vQ,not_false_eq_true,Nat.reduceEqDiff,↓reduceIte,eq_self,Nat.reduceAdd,Nat.reduceMul,Nat.reduceSub,Nat.reduceLeDiff,Nat.reduceLT,defd,cellsOf,wr,packR,Int.reduceLE,Int.reduceLT,Int.reduceEq,Int.cast_ofNat_Int,Int.reduceToNat,hv]
      simp [vZ]
    simp only [↓vS,cvF_pc,vP,shb,shv,shvs,she_nil,she_cons,vC,vQ,not_false_eq_true,Nat.reduceEqDiff,↓reduceIte,eq_self,Nat.reduceAdd,Nat.reduceMul,Nat.reduceSub,Nat.reduceLeDiff,Nat.reduceLT,defd,cellsOf,wr,packR,Int.reduceLE,Int.reduceLT,Int.reduceEq,Int.cast_ofNat_Int,Int.reduceToNat,hv]
    have hv':v.length ≤ 1000:=by omega
    have p1:=stepM_calls hE l (by omega) v fl
    have p2:=stepM_len (E:=E) l v fl
    refine (h2 l (by omega)).sc ?_
    simp only [↓vS,cvF_pc,vP,shb,shv,shvs,she_nil,she_cons,vC,vQ,not_false_eq_true,Nat.reduceEqDiff,↓reduceIte,eq_self,Nat.reduceAdd,Nat.reduceMul,Nat.reduceSub,Nat.reduceLeDiff,Nat.reduceLT,defd,cellsOf,wr,packR,Int.reduceLE,Int.reduceLT,Int.reduceEq,Int.cast_ofNat_Int,Int.reduceToNat,cList]
    refine (h3 l v fl (by omega) hv' hm.1).sc ?_
    simp only [pushs_cons,pushs_nil,push_mk,shb,shv,shvs,she_nil,she_cons,List.map_cons,List.map_nil,up_mk,down_mk,Nat.reduceAdd,Nat.zero_add,shvs_clo rC_clos,shvs_clo rN_clos]
    simp only [↓vS,cvF_pc,vP,shb,shv,shvs,she_nil,she_cons,vC,vQ,not_false_eq_true,Nat.reduceEqDiff,↓reduceIte,eq_self,Nat.reduceAdd,Nat.reduceMul,Nat.reduceSub,Nat.reduceLeDiff,Nat.reduceLT,defd,cellsOf,wr,packR,Int.reduceLE,Int.reduceLT,Int.reduceEq,Int.cast_ofNat_Int,Int.reduceToNat]
    refine (h4 l v fl (by omega) hv' hm.1 hm.2).sc ?_
    generalize stepM E l v fl = R at p1 p2
    simp only [↓vS,cvF_pc,vP,shb,shv,shvs,she_nil,she_cons,vC,vQ,not_false_eq_true,Nat.reduceEqDiff,↓reduceIte,eq_self,Nat.reduceAdd,Nat.reduceMul,Nat.reduceSub,Nat.reduceLeDiff,Nat.reduceLT,defd,cellsOf,wr,packR,Int.reduceLE,Int.reduceLT,Int.reduceEq,Int.cast_ofNat_Int,Int.reduceToNat,cList]
    refine (h5 R.1 (by omega)).lend (vs':=[.agg (cList R.1),.agg (cList R.1)]) ?_ rfl ?_
    · simp [vZ,vP,Tr.get_set,cList,frzs_self rC_clos]
      intro h0; rw [h0]; rfl
    simp only [↓vS,cvF_pc,vP,shb,shv,shvs,she_nil,she_cons,vC,vQ,not_false_eq_true,Nat.reduceEqDiff,↓reduceIte,eq_self,Nat.reduceAdd,Nat.reduceMul,Nat.reduceSub,Nat.reduceLeDiff,Nat.reduceLT,defd,cellsOf,wr,packR,Int.reduceLE,Int.reduceLT,Int.reduceEq,Int.cast_ofNat_Int,Int.reduceToNat]
    refine (h6 R.2 (by omega)).lend (vs':=[.fz R.2.length (rN R.2),.fz R.2.length (rN R.2)]) ?_ rfl ?_
    · simp [vZ,vP,Tr.get_set,frzs_self rN_clos]
      intro h0; rw [h0]; rfl
    simp only [↓vS,cvF_pc,vP,shb,shv,shvs,she_nil,she_cons,vC,vQ,not_false_eq_true,Nat.reduceEqDiff,↓reduceIte,eq_self,Nat.reduceAdd,Nat.reduceMul,Nat.reduceSub,Nat.reduceLeDiff,Nat.reduceLT,defd,cellsOf,wr,packR,Int.reduceLE,Int.reduceLT,Int.reduceEq,Int.cast_ofNat_Int,Int.reduceToNat]
    refine (h7 R.1.mode R.1.calls (by omega)).sc (vs:=[.agg [.i .u8 R.1.mode,.own 0 R.1.calls.length]]) [2] (Lent.of (by decide) ?_) ?_
    · simp [lent_cons,lent_nil,pushs_cons,pushs_nil,push_mk,shb,shv,shvs,bnds,bnd,rnvs,rnv,gAt,vW,bw_map,mapAt_map,mapClo_it,mapClo_nil,mapClo_cons,vP,vZ,Tr.get_set,bnds_clo rC_clos,rnvs_clo rC_clos,bnd_clo,clo,rnv_clo]
    simp only [backH,List.cons_append,List.nil_append,List.length_cons,List.length_nil,Nat.zero_add,Nat.reduceAdd,List.take_succ_cons,List.take_zero,List.drop_succ_cons,List.drop_zero,List.map_cons,List.map_nil,rnb,rnvs,rnv,gAt,Nat.reduceLT,↓reduceIte,List.getD_cons_zero,List.getD_cons_succ,Nat.reduceSub,puts_cons,puts_nil,pushs_cons,pushs_nil,hput_mk,push_mk,rnvs_clo rC_clos,rnv_clo,clo]
    simp only [↓vS,cvF_pc,vP,shb,shv,shvs,she_nil,she_cons,vC,vQ,not_false_eq_true,Nat.reduceEqDiff,↓reduceIte,eq_self,Nat.reduceAdd,Nat.reduceMul,Nat.reduceSub,Nat.reduceLeDiff,Nat.reduceLT,defd,cellsOf,wr,packR,Int.reduceLE,Int.reduceLT,Int.reduceEq,Int.cast_ofNat_Int,Int.reduceToNat]
    refine (h5 l (by omega)).sc ?_
    simp only [↓vS,cvF_pc,vP,shb,shv,shvs,she_nil,she_cons,vC,vQ,not_false_eq_true,Nat.reduceEqDiff,↓reduceIte,eq_self,Nat.reduceAdd,Nat.reduceMul,Nat.reduceSub,Nat.reduceLeDiff,Nat.reduceLT,defd,cellsOf,wr,packR,Int.reduceLE,Int.reduceLT,Int.reduceEq,Int.cast_ofNat_Int,Int.reduceToNat]
    refine h8.sc ?_
    simp only [↓vS,cvF_pc,vP,shb,shv,shvs,she_nil,she_cons,vC,vQ,not_false_eq_true,Nat.reduceEqDiff,↓reduceIte,eq_self,Nat.reduceAdd,Nat.reduceMul,Nat.reduceSub,Nat.reduceLeDiff,Nat.reduceLT,defd,cellsOf,wr,packR,Int.reduceLE,Int.reduceLT,Int.reduceEq,Int.cast_ofNat_Int,Int.reduceToNat]
    simp [vZ]
end Go.Kc
end
