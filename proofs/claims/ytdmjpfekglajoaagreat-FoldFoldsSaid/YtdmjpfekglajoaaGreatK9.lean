/- Part 9 of the abstract machine and of the functions' walks. Conditions: with each theorem. -/
import Derived.Test.YtdmjpfekglajoaaGreatK8
set_option linter.unusedSimpArgs false
set_option linter.unusedVariables false
set_option linter.unnecessarySimpa false
section
/- What the document's reading of values answers. Condition: the functions' texts are these. -/
namespace Go.Kc
variable {P:Program} {f:Nat}
def ir_vestibuleref15_Words:IFn:=⟨[.tmp 2],
  .seq (.reg false [⟨(some 2),.op (.mov (.c (.nils))),none⟩])
  (.seq (.reg false [⟨(some 3),.op (.mov (.c (.nils))),none⟩])
  (.seq (.reg false [⟨(some 4),.op (.mov (.c (.s []))),none⟩])
  (.seq (.seq (.reg false [⟨(some 5),.op (.mov (.c (.i .i64 0))),none⟩])
  (.blk 0 (.loop (.seq (.seq (.reg false [⟨(some 6),.op (.mov (.t 5)),none⟩,
    ⟨(some 7),.op (.mov (.t 0)),none⟩,
    ⟨(some 8),.op (.len true (.t 7)),none⟩,
    ⟨(some 9),.op (.bin .leq (.t 6) (.t 8)),none⟩])
  (.cond (.t 9) (.skip) (.exit 0)))
  (.seq (.blk 1 (.seq (.seq (.reg false [⟨(some 12),.op (.mov (.t 5)),none⟩,
    ⟨(some 13),.op (.mov (.t 0)),none⟩,
    ⟨(some 14),.op (.len true (.t 13)),none⟩,
    ⟨(some 15),.op (.bin .lss (.t 12) (.t 14)),none⟩,
    ⟨(some 16),.op (.mov (.t 15)),none⟩,
    ⟨(some 17),.op (.mov (.t 0)),(some (16,true))⟩,
    ⟨(some 18),.op (.mov (.t 5)),(some (16,true))⟩,
    ⟨(some 19),.op (.idxS (.t 17) (.t 18)),(some (16,true))⟩,
    ⟨(some 20),.op (.bin .neq (.t 19) (.c (.i .u8 32))),(some (16,true))⟩,
    ⟨(some 21),.op (.pick (.t 16) (.t 20) (.c (.b false))),none⟩,
    ⟨(some 22),.op (.mov (.t 21)),none⟩,
    ⟨(some 23),.op (.mov (.t 0)),(some (22,true))⟩,
    ⟨(some 24),.op (.mov (.t 5)),(some (22,true))⟩,
    ⟨(some 25),.op (.idxS (.t 23) (.t 24)),(some (22,true))⟩,
    ⟨(some 26),.op (.bin .neq (.t 25) (.c (.i .u8 9))),(some (22,true))⟩,
    ⟨(some 27),.op (.pick (.t 22) (.t 26) (.c (.b false))),none⟩,
    ⟨(some 28),.op (.mov (.t 27)),none⟩,
    ⟨(some 29),.op (.mov (.t 0)),(some (28,true))⟩,
    ⟨(some 30),.op (.mov (.t 5)),(some (28,true))⟩,
    ⟨(some 31),.op (.idxS (.t 29) (.t 30)),(some (28,true))⟩,
    ⟨(some 32),.op (.bin .neq (.t 31) (.c (.i .u8 13))),(some (28,true))⟩,
    ⟨(some 33),.op (.pick (.t 28) (.t 32) (.c (.b false))),none⟩])
  (.cond (.t 33) (.seq (.reg false [⟨(some 34),.op (.mov (.t 4)),none⟩,
    ⟨(some 35),.op (.mov (.t 0)),none⟩,
    ⟨(some 36),.op (.mov (.t 5)),none⟩,
    ⟨(some 37),.op (.mov (.t 5)),none⟩,
    ⟨(some 38),.op (.bin .add (.t 37) (.c (.i .i64 1))),none⟩,
    ⟨(some 39),.op (.slcStr (.t 35) (some (.t 36)) (some (.t 38))),none⟩,
    ⟨(some 40),.op (.bin .add (.t 34) (.t 39)),none⟩,
    ⟨(some 4),.op (.mov (.t 40)),none⟩])
  (.exit 1)) (.skip)))
  (.seq (.seq (.reg false [⟨(some 41),.op (.mov (.t 4)),none⟩,
    ⟨(some 42),.op (.bin .neq (.t 41) (.c (.s []))),none⟩])
  (.cond (.t 42) (.reg false [⟨(some 43),.op (.mov (.t 3)),none⟩,
    ⟨(some 44),.op (.mov (.t 4)),none⟩,
    ⟨(some 45),.op (.buildS 1 [.s []] [(0,1,(.t 44))]),none⟩,
    ⟨(some 46),.op (.app 1 16 true (.t 43) (.t 45)),none⟩,
    ⟨(some 3),.op (.mov (.t 46)),none⟩]) (.skip)))
  (.reg false [⟨(some 4),.op (.mov (.c (.s []))),none⟩]))))
  (.reg false [⟨(some 10),.op (.mov (.t 5)),none⟩,
    ⟨(some 11),.op (.bin .add (.t 10) (.c (.i .i64 1))),none⟩,
    ⟨(some 5),.op (.mov (.t 11)),none⟩]))))))
  (.seq (.reg false [⟨(some 47),.op (.mov (.t 3)),none⟩,
    ⟨(some 2),.op (.mov (.t 47)),none⟩])
  (.ret)))))⟩
theorem isSp_bytes (c:UInt8):isSp c = (decide ((c.toNat:Int) = 32) || decide ((c.toNat:Int) = 9) || decide ((c.toNat:Int) = 13)):=by rw [isSp_spc]; rfl
theorem words15 (hc:chkFn P f ir_vestibuleref15_Words = true) (s:List UInt8) (hs:s.length ≤ 1000000):Pure P f [.s s] (.fz (words s).length (rS (words s))):=by
  refine Pure.mk hc rfl ?_
  simp only [ir_vestibuleref15_Words,argsT,H0,mkT,mkH,trL,List.length_cons,List.length_nil,Nat.reduceAdd,Nat.zero_add]
  simp only [↓vS,cvF_pc,vP,shb,shv,shvs,she_nil,she_cons,vC,vQ,not_false_eq_true,Nat.reduceEqDiff,↓reduceIte,eq_self,Nat.reduceAdd,Nat.reduceMul,Nat.reduceSub,Nat.reduceLeDiff,Nat.reduceLT,defd,cellsOf,wr,packR,Int.reduceLE,Int.reduceLT,Int.reduceEq,Int.cast_ofNat_Int,Int.reduceToNat]
  refine SL.loop (α:=Nat × List UInt8 × List (List UInt8)) (fun q=>[(0,.s s),(3,.own 0 q.2.2.length),(4,.s q.2.1),(5,.i .i64 q.1)]) (fun q=>[.cells 1 true true (rS q.2.2)])
    (fun q=>(q.1 ≤ s.length ∧ q.2.1.length ≤ q.1 ∧ q.2.2.length ≤ q.1 ∧ q.2.2 ++ wB (s.drop q.1) q.2.1 = words s) ∨ (q.1 = s.length + 1 ∧ q.2.2 = words s)) (fun q=>s.length + 1 - q.1) (0,[],[]) [0] ?_ ?_ ?_ rfl ?_ ?_
  · simp [vW,bw_map,mapAt_map,mapClo_it,mapClo_nil,mapClo_cons,vP,vZ,Tr.get_set]
  · simp [vW,bw_map,mapAt_map,mapClo_it,mapClo_nil,mapClo_cons,vP,vZ,Tr.get_set,rS_nil]
  · simp
  · left; exact ⟨Nat.zero_le _,Nat.le_refl _,Nat.le_refl _,by rw [words_wB]; rfl⟩
  rintro ⟨i,w,acc⟩ hI G ih
  dsimp only at hI ih ⊢
  simp only [argsT,H0,mkT,mkH,trL,List.length_cons,List.length_nil,Nat.reduceAdd,Nat.zero_add]
  rcases hI with ⟨hi,hw,ha,hI⟩ | ⟨rfl,hI⟩
  · have hle:(i:Int) ≤ s.length:=by omega
    have hw1:IntKind.wrap .i64 ((i:Int) + 1) = ((i + 1:Nat):Int):=by rw [wrap64 (by omega) (by omega)]; omega
    by_cases hlt:i < s.length
    · have hx:s[i]? = some s[i]:=List.getElem?_eq_getElem hlt
      have hsub:(s.take (i + 1)).drop i = [s[i]]:=by
        rw [List.take_add_one,hx,List.drop_append_of_le_length (by simp; omega),List.drop_of_length_le (by simp; omega)]; rfl
      rw [List.drop_eq_getElem_cons hlt,wB] at hI
      generalize s[i] = c at hx hsub hI
      have hsp:=isSp_bytes c
      by_cases c1:(c.toNat:Int) = 32
      · have hs1:isSp c = true:=by rw [hsp]; simp [c1]
        rw [hs1,if_pos rfl] at hI
        by_cases hwn:w = []
        · subst hwn
          rw [if_pos rfl] at hI
          simp only [↓vS,cvF_pc,vP,shb,shv,shvs,she_nil,she_cons,vC,vQ,not_false_eq_true,Nat.reduceEqDiff,↓reduceIte,eq_self,Nat.reduceAdd,Nat.reduceMul,Nat.reduceSub,Nat.reduceLeDiff,Nat.reduceLT,defd,cellsOf,wr,packR,Int.reduceLE,Int.reduceLT,Int.reduceEq,Int.cast_ofNat_Int,Int.reduceToNat,hle,hlt,hx,c1,hw1]
          refine ih (i + 1,[],acc) (.inl ⟨hlt,by simp,by dsimp only; omega,hI⟩) (by dsimp only; omega) _ _ (Wk.mk _ _ [0] ?_ ?_ ?_ rfl)
          · simp [vW,bw_map,mapAt_map,mapClo_it,mapClo_nil,mapClo_cons,vP,vZ,Tr.get_set]
          · simp [vW,bw_map,mapAt_map,mapClo_it,mapClo_nil,mapClo_cons,vP,vZ,Tr.get_set,nvs_self,rS_clos]
          · simp
        · rw [if_neg hwn] at hI
          have hr1:acc.length + 1 ≤ roomB:=by simp only [roomB]; omega
          have hr2:(acc.length + 1) * 16 ≤ roomB:=by simp only [roomB]; omega
          have hap:rS acc ++ [AV.s w] = rS (acc ++ [w]):=by rw [← rS_app]; rfl
          simp (decide:=true) only [↓vS,cvF_pc,vP,shb,shv,shvs,she_nil,she_cons,vC,vQ,not_false_eq_true,Nat.reduceEqDiff,↓reduceIte,eq_self,Nat.reduceAdd,Nat.reduceMul,Nat.reduceSub,Nat.reduceLeDiff,Nat.reduceLT,defd,cellsOf,wr,packR,Int.reduceLE,Int.reduceLT,Int.reduceEq,Int.cast_ofNat_Int,Int.reduceToNat,hle,hlt,hx,c1,hw1,hwn,hr1,hr2,rS_len,Nat.mul_one,hap]
          refine ih (i + 1,[],acc ++ [w]) (.inl ⟨hlt,by simp,by simp; omega,by simpa using hI⟩) (by dsimp only; omega) _ _ (Wk.mk _ _ [2] ?_ ?_ ?_ rfl)
          · simp [vW,bw_map,mapAt_map,mapClo_it,mapClo_nil,mapClo_cons,vP,vZ,Tr.get_set]
          · simp [vW,bw_map,mapAt_map,mapClo_it,mapClo_nil,mapClo_cons,vP,vZ,Tr.get_set,nvs_self,rS_clos]
          · simp
      by_cases c2:(c.toNat:Int) = 9
      · have hs1:isSp c = true:=by rw [hsp]; simp [c2]
        rw [hs1,if_pos rfl] at hI
        by_cases hwn:w = []
        · subst hwn
          rw [if_pos rfl] at hI
          simp only [↓vS,cvF_pc,vP,shb,shv,shvs,she_nil,she_cons,vC,vQ,not_false_eq_true,Nat.reduceEqDiff,↓reduceIte,eq_self,Nat.reduceAdd,Nat.reduceMul,Nat.reduceSub,Nat.reduceLeDiff,Nat.reduceLT,defd,cellsOf,wr,packR,Int.reduceLE,Int.reduceLT,Int.reduceEq,Int.cast_ofNat_Int,Int.reduceToNat,hle,hlt,hx,c1,c2,hw1]
          refine ih (i + 1,[],acc) (.inl ⟨hlt,by simp,by dsimp only; omega,hI⟩) (by dsimp only; omega) _ _ (Wk.mk _ _ [0] ?_ ?_ ?_ rfl)
          · simp [vW,bw_map,mapAt_map,mapClo_it,mapClo_nil,mapClo_cons,vP,vZ,Tr.get_set]
          · simp [vW,bw_map,mapAt_map,mapClo_it,mapClo_nil,mapClo_cons,vP,vZ,Tr.get_set,nvs_self,rS_clos]
          · simp
        · rw [if_neg hwn] at hI
          have hr1:acc.length + 1 ≤ roomB:=by simp only [roomB]; omega
          have hr2:(acc.length + 1) * 16 ≤ roomB:=by simp only [roomB]; omega
          have hap:rS acc ++ [AV.s w] = rS (acc ++ [w]):=by rw [← rS_app]; rfl
          simp (decide:=true) only [↓vS,cvF_pc,vP,shb,shv,shvs,she_nil,she_cons,vC,vQ,not_false_eq_true,Nat.reduceEqDiff,↓reduceIte,eq_self,Nat.reduceAdd,Nat.reduceMul,Nat.reduceSub,Nat.reduceLeDiff,Nat.reduceLT,defd,cellsOf,wr,packR,Int.reduceLE,Int.reduceLT,Int.reduceEq,Int.cast_ofNat_Int,Int.reduceToNat,hle,hlt,hx,c1,c2,hw1,hwn,hr1,hr2,rS_len,Nat.mul_one,hap]
          refine ih (i + 1,[],acc ++ [w]) (.inl ⟨hlt,by simp,by simp; omega,by simpa using hI⟩) (by dsimp only; omega) _ _ (Wk.mk _ _ [2] ?_ ?_ ?_ rfl)
          · simp [vW,bw_map,mapAt_map,mapClo_it,mapClo_nil,mapClo_cons,vP,vZ,Tr.get_set]
          · simp [vW,bw_map,mapAt_map,mapClo_it,mapClo_nil,mapClo_cons,vP,vZ,Tr.get_set,nvs_self,rS_clos]
          · simp
      by_cases c3:(c.toNat:Int) = 13
      · have hs1:isSp c = true:=by rw [hsp]; simp [c3]
        rw [hs1,if_pos rfl] at hI
        by_cases hwn:w = []
        · subst hwn
          rw [if_pos rfl] at hI
          simp only [↓vS,cvF_pc,vP,shb,shv,shvs,she_nil,she_cons,vC,vQ,not_false_eq_true,Nat.reduceEqDiff,↓reduceIte,eq_self,Nat.reduceAdd,Nat.reduceMul,Nat.reduceSub,Nat.reduceLeDiff,Nat.reduceLT,defd,cellsOf,wr,packR,Int.reduceLE,Int.reduceLT,Int.reduceEq,Int.cast_ofNat_Int,Int.reduceToNat,hle,hlt,hx,c1,c2,c3,hw1]
          refine ih (i + 1,[],acc) (.inl ⟨hlt,by simp,by dsimp only; omega,hI⟩) (by dsimp only; omega) _ _ (Wk.mk _ _ [0] ?_ ?_ ?_ rfl)
          · simp [vW,bw_map,mapAt_map,mapClo_it,mapClo_nil,mapClo_cons,vP,vZ,Tr.get_set]
          · simp [vW,bw_map,mapAt_map,mapClo_it,mapClo_nil,mapClo_cons,vP,vZ,Tr.get_set,nvs_self,rS_clos]
          · simp
        · rw [if_neg hwn] at hI
          have hr1:acc.length + 1 ≤ roomB:=by simp only [roomB]; omega
          have hr2:(acc.length + 1) * 16 ≤ roomB:=by simp only [roomB]; omega
          have hap:rS acc ++ [AV.s w] = rS (acc ++ [w]):=by rw [← rS_app]; rfl
          simp (decide:=true) only [↓vS,cvF_pc,vP,shb,shv,shvs,she_nil,she_cons,vC,vQ,not_false_eq_true,Nat.reduceEqDiff,↓reduceIte,eq_self,Nat.reduceAdd,Nat.reduceMul,Nat.reduceSub,Nat.reduceLeDiff,Nat.reduceLT,defd,cellsOf,wr,packR,Int.reduceLE,Int.reduceLT,Int.reduceEq,Int.cast_ofNat_Int,Int.reduceToNat,hle,hlt,hx,c1,c2,c3,hw1,hwn,hr1,hr2,rS_len,Nat.mul_one,hap]
          refine ih (i + 1,[],acc ++ [w]) (.inl ⟨hlt,by simp,by simp; omega,by simpa using hI⟩) (by dsimp only; omega) _ _ (Wk.mk _ _ [2] ?_ ?_ ?_ rfl)
          · simp [vW,bw_map,mapAt_map,mapClo_it,mapClo_nil,mapClo_cons,vP,vZ,Tr.get_set]
          · simp [vW,bw_map,mapAt_map,mapClo_it,mapClo_nil,mapClo_cons,vP,vZ,Tr.get_set,nvs_self,rS_clos]
          · simp
      · have hs0:isSp c = false:=by rw [hsp]; simp [c1,c2,c3]
        rw [hs0,if_neg (by decide)] at hI
        have hl1:i + 1 ≤ s.length:=hlt
        have hcat:w.length + 1 ≤ 9223372036854775807:=by omega
        simp only [↓vS,cvF_pc,vP,shb,shv,shvs,she_nil,she_cons,vC,vQ,not_false_eq_true,Nat.reduceEqDiff,↓reduceIte,eq_self,Nat.reduceAdd,Nat.reduceMul,Nat.reduceSub,Nat.reduceLeDiff,Nat.reduceLT,defd,cellsOf,wr,packR,Int.reduceLE,Int.reduceLT,Int.reduceEq,Int.cast_ofNat_Int,Int.reduceToNat,hle,hlt,hx,c1,c2,c3,hw1,hl1,hsub,Nat.le_add_right,List.length_cons,List.length_nil,hcat]
        refine ih (i + 1,w ++ [c],acc) (.inl ⟨hlt,by simp; omega,by dsimp only; omega,hI⟩) (by dsimp only; omega) _ _ (Wk.mk _ _ [0] ?_ ?_ ?_ rfl)
        · simp [vW,bw_map,mapAt_map,mapClo_it,mapClo_nil,mapClo_cons,vP,vZ,Tr.get_set]
        · simp [vW,bw_map,mapAt_map,mapClo_it,mapClo_nil,mapClo_cons,vP,vZ,Tr.get_set,nvs_self,rS_clos]
        · simp
    · rw [List.drop_of_length_le (by omega)] at hI
      by_cases hwn:w = []
      · subst hwn
        rw [wB,if_pos rfl] at hI
        simp only [↓vS,cvF_pc,vP,shb,shv,shvs,she_nil,she_cons,vC,vQ,not_false_eq_true,Nat.reduceEqDiff,↓reduceIte,eq_self,Nat.reduceAdd,Nat.reduceMul,Nat.reduceSub,Nat.reduceLeDiff,Nat.reduceLT,defd,cellsOf,wr,packR,Int.reduceLE,Int.reduceLT,Int.reduceEq,Int.cast_ofNat_Int,Int.reduceToNat,hle,hlt,hw1]
        refine ih (i + 1,[],acc) (.inr ⟨by dsimp only; omega,by simpa using hI⟩) (by dsimp only; omega) _ _ (Wk.mk _ _ [0] ?_ ?_ ?_ rfl)
        · simp [vW,bw_map,mapAt_map,mapClo_it,mapClo_nil,mapClo_cons,vP,vZ,Tr.get_set]
        · simp [vW,bw_map,mapAt_map,mapClo_it,mapClo_nil,mapClo_cons,vP,vZ,Tr.get_set,nvs_self,rS_clos]
        · simp
      · rw [wB,if_neg hwn] at hI
        have hr1:acc.length + 1 ≤ roomB:=by simp only [roomB]; omega
        have hr2:(acc.length + 1) * 16 ≤ roomB:=by simp only [roomB]; omega
        have hap:rS acc ++ [AV.s w] = rS (acc ++ [w]):=by rw [← rS_app]; rfl
        simp (decide:=true) only [↓vS,cvF_pc,vP,shb,shv,shvs,she_nil,she_cons,vC,vQ,not_false_eq_true,Nat.reduceEqDiff,↓reduceIte,eq_self,Nat.reduceAdd,Nat.reduceMul,Nat.reduceSub,Nat.reduceLeDiff,Nat.reduceLT,defd,cellsOf,wr,packR,Int.reduceLE,Int.reduceLT,Int.reduceEq,Int.cast_ofNat_Int,Int.reduceToNat,hle,hlt,hw1,hwn,hr1,hr2,rS_len,Nat.mul_one,hap]
        refine ih (i + 1,[],acc ++ [w]) (.inr ⟨by dsimp only; omega,hI⟩) (by dsimp only; omega) _ _ (Wk.mk _ _ [2] ?_ ?_ ?_ rfl)
        · simp [vW,bw_map,mapAt_map,mapClo_it,mapClo_nil,mapClo_cons,vP,vZ,Tr.get_set]
        · simp [vW,bw_map,mapAt_map,mapClo_it,mapClo_nil,mapClo_cons,vP,vZ,Tr.get_set,nvs_self,rS_clos]
        · simp
  · have hgt:¬ ((s.length + 1:Nat):Int) ≤ s.length:=by omega
    simp only [↓vS,cvF_pc,vP,shb,shv,shvs,she_nil,she_cons,vC,vQ,not_false_eq_true,Nat.reduceEqDiff,↓reduceIte,eq_self,Nat.reduceAdd,Nat.reduceMul,Nat.reduceSub,Nat.reduceLeDiff,Nat.reduceLT,defd,cellsOf,wr,packR,Int.reduceLE,Int.reduceLT,Int.reduceEq,Int.cast_ofNat_Int,Int.reduceToNat,hgt]
    subst hI
    simp [vZ,vP,Tr.get_set,frzs_self rS_clos]
    intro h0; rw [h0]; rfl
def ir_vestibuleref15_Turned:IFn:=⟨[.tmp 2,.tmp 3],
  .seq (.reg false [⟨(some 2),.op (.mov (.c (.s []))),none⟩,
    ⟨(some 3),.op (.mov (.c (.b false))),none⟩])
  (.seq (.seq (.reg false [⟨(some 4),.op (.mov (.t 0)),none⟩,
    ⟨(some 5),.op (.len true (.t 4)),none⟩,
    ⟨(some 6),.op (.bin .gtr (.t 5) (.c (.i .i64 0))),none⟩,
    ⟨(some 7),.op (.mov (.t 6)),none⟩,
    ⟨(some 8),.op (.mov (.t 0)),(some (7,true))⟩,
    ⟨(some 9),.op (.idxS (.t 8) (.c (.i .i64 0))),(some (7,true))⟩,
    ⟨(some 10),.op (.bin .eql (.t 9) (.c (.i .u8 126))),(some (7,true))⟩,
    ⟨(some 11),.op (.pick (.t 7) (.t 10) (.c (.b false))),none⟩])
  (.cond (.t 11) (.seq (.reg false [⟨(some 12),.op (.mov (.t 0)),none⟩,
    ⟨(some 13),.op (.slcStr (.t 12) (some (.c (.i .i64 1))) none),none⟩,
    ⟨(some 2),.op (.mov (.t 13)),none⟩,
    ⟨(some 3),.op (.mov (.c (.b true))),none⟩])
  (.ret)) (.skip)))
  (.seq (.reg false [⟨(some 14),.op (.mov (.t 0)),none⟩,
    ⟨(some 2),.op (.mov (.t 14)),none⟩,
    ⟨(some 3),.op (.mov (.c (.b false))),none⟩])
  (.ret)))⟩
theorem turned15 (hc:chkFn P f ir_vestibuleref15_Turned = true) (s:List UInt8):Pure P f [.s s] (.tup [.s (turnP s).1,.b (turnP s).2]):=by
  refine Pure.mk hc rfl ?_
  simp only [ir_vestibuleref15_Turned,argsT,H0,mkT,mkH,trL,List.length_cons,List.length_nil,Nat.reduceAdd,Nat.zero_add]
  cases s with
  | nil =>
    simp only [↓vS,cvF_pc,vP,shb,shv,shvs,she_nil,she_cons,vC,vQ,not_false_eq_true,Nat.reduceEqDiff,↓reduceIte,eq_self,Nat.reduceAdd,Nat.reduceMul,Nat.reduceSub,Nat.reduceLeDiff,Nat.reduceLT,defd,cellsOf,wr,packR,Int.reduceLE,Int.reduceLT,Int.reduceEq,Int.cast_ofNat_Int,Int.reduceToNat,List.length_nil]
    simp [vZ,turnP]
  | cons c s =>
    have h0:(0:Int) < ((c :: s).length:Int):=by simp
    have h1:0 < (c :: s).length:=by simp
    have h2:1 ≤ (c :: s).length:=by simp
    have hx:(c :: s)[0]? = some c:=rfl
    by_cases hc:(c.toNat:Int) = 126
    · have hc':c = 126:=by rw [← UInt8.toNat_inj]; have:=hc; simp at this ⊢; omega
      have ht:turnP (c :: s) = (s,true):=by rw [hc']; simp [turnP,List.isPrefixOf]
      simp only [↓vS,cvF_pc,vP,shb,shv,shvs,she_nil,she_cons,vC,vQ,not_false_eq_true,Nat.reduceEqDiff,↓reduceIte,eq_self,Nat.reduceAdd,Nat.reduceMul,Nat.reduceSub,Nat.reduceLeDiff,Nat.reduceLT,defd,cellsOf,wr,packR,Int.reduceLE,Int.reduceLT,Int.reduceEq,Int.cast_ofNat_Int,Int.reduceToNat,h0,h1,h2,hx,hc,List.take_length,List.drop_succ_cons,List.drop_zero]
      simp [vZ,ht]
    · have hc':¬ (126:UInt8) = c:=by rintro rfl; exact hc rfl
      have ht:turnP (c :: s) = (c :: s,false):=by unfold turnP; rw [if_neg (by simp [List.isPrefixOf,hc'])]
      simp only [↓vS,cvF_pc,vP,shb,shv,shvs,she_nil,she_cons,vC,vQ,not_false_eq_true,Nat.reduceEqDiff,↓reduceIte,eq_self,Nat.reduceAdd,Nat.reduceMul,Nat.reduceSub,Nat.reduceLeDiff,Nat.reduceLT,defd,cellsOf,wr,packR,Int.reduceLE,Int.reduceLT,Int.reduceEq,Int.cast_ofNat_Int,Int.reduceToNat,h0,h1,hx,hc]
      simp [vZ,ht]
def ir_vestibuleref15_Read_c4 (f_vestibuleref10_Errno:Nat):ICode:=.seq (.seq (.reg false [⟨(some 27),.op (.mov (.t 4)),none⟩,
    ⟨(some 28),.op (.bin .eql (.t 27) (.c (.i .i64 0))),none⟩])
  (.cond (.t 28) (.seq (.reg false [⟨(some 29),.op (.build [.s [],.i .u32 0,.b false] []),none⟩,
    ⟨none,.op (.store 3 (.t 2) (.t 29)),none⟩,
    ⟨(some 3),.op (.mov (.c (.i .i64 161))),none⟩])
  (.ret)) (.skip)))
  (.seq (.seq (.reg false [⟨(some 30),.op (.mov (.t 4)),none⟩,
    ⟨(some 31),.op (.mov (.t 0)),none⟩,
    ⟨(some 32),.op (.len true (.t 31)),none⟩,
    ⟨(some 33),.op (.bin .eql (.t 30) (.t 32)),none⟩])
  (.cond (.t 33) (.seq (.reg false [⟨(some 34),.op (.loadN 3 (.t 6)),none⟩,
    ⟨none,.op (.store 3 (.t 2) (.t 34)),none⟩,
    ⟨(some 3),.op (.mov (.c (.i .i64 0))),none⟩])
  (.ret)) (.skip)))
  (.seq (.reg false [⟨(some 35),.op (.fAddr 2 (.t 6)),none⟩,
    ⟨none,.op (.store 1 (.t 35) (.c (.b true))),none⟩])
  (.seq (.seq (.reg false [⟨(some 36),.op (.mov (.t 0)),none⟩,
    ⟨(some 37),.op (.mov (.t 4)),none⟩,
    ⟨(some 38),.op (.bin .add (.t 37) (.c (.i .i64 1))),none⟩,
    ⟨(some 39),.op (.slcStr (.t 36) (some (.t 38)) none),none⟩,
    ⟨(some 40),.op (.bin .eql (.t 39) (.c (.s [107,105,108,108]))),none⟩])
  (.cond (.t 40) (.seq (.reg false [⟨(some 41),.op (.fAddr 1 (.t 6)),none⟩,
    ⟨none,.op (.store 1 (.t 41) (.c (.i .u32 2147483648))),none⟩])
  (.seq (.reg false [⟨(some 42),.op (.loadN 3 (.t 6)),none⟩,
    ⟨none,.op (.store 3 (.t 2) (.t 42)),none⟩,
    ⟨(some 3),.op (.mov (.c (.i .i64 0))),none⟩])
  (.ret))) (.skip)))
  (.seq (.reg false [⟨(some 44),.op (.mov (.t 0)),none⟩,
    ⟨(some 45),.op (.mov (.t 4)),none⟩,
    ⟨(some 46),.op (.bin .add (.t 45) (.c (.i .i64 1))),none⟩,
    ⟨(some 47),.op (.slcStr (.t 44) (some (.t 46)) none),none⟩,
    ⟨(some 48),.callF f_vestibuleref10_Errno [(.t 47)],none⟩,
    ⟨(some 43),.op (.mov (.t 48)),none⟩,
    ⟨(some 49),.op (.ext (.t 43) 0),none⟩,
    ⟨(some 50),.op (.ext (.t 43) 1),none⟩,
    ⟨(some 7),.op (.mov (.t 49)),none⟩,
    ⟨(some 8),.op (.mov (.t 50)),none⟩])
  (.seq (.seq (.reg false [⟨(some 51),.op (.mov (.t 8)),none⟩,
    ⟨(some 52),.op (.bin .neq (.t 51) (.c (.i .i64 0))),none⟩])
  (.cond (.t 52) (.seq (.reg false [⟨(some 53),.op (.build [.s [],.i .u32 0,.b false] []),none⟩,
    ⟨none,.op (.store 3 (.t 2) (.t 53)),none⟩,
    ⟨(some 3),.op (.mov (.c (.i .i64 160))),none⟩])
  (.ret)) (.skip)))
  (.seq (.reg false [⟨(some 54),.op (.mov (.t 7)),none⟩,
    ⟨(some 55),.op (.bin .add (.c (.i .u32 327680)) (.t 54)),none⟩,
    ⟨(some 56),.op (.fAddr 1 (.t 6)),none⟩,
    ⟨none,.op (.store 1 (.t 56) (.t 55)),none⟩])
  (.seq (.reg false [⟨(some 57),.op (.loadN 3 (.t 6)),none⟩,
    ⟨none,.op (.store 3 (.t 2) (.t 57)),none⟩,
    ⟨(some 3),.op (.mov (.c (.i .i64 0))),none⟩])
  (.ret))))))))
def ir_vestibuleref15_Read (f_vestibuleref10_Errno:Nat):IFn:=⟨[.cell 2 3 true,.tmp 3],
  .seq (.reg false [⟨(some 2),.op (.alloc [.s [],.i .u32 0,.b false]),none⟩,
    ⟨(some 3),.op (.mov (.c (.i .i64 0))),none⟩])
  (.seq (.reg false [⟨(some 9),.op (.mov (.t 0)),none⟩,
    ⟨(some 10),.op (.len true (.t 9)),none⟩,
    ⟨(some 4),.op (.mov (.t 10)),none⟩])
  (.seq (.seq (.reg false [⟨(some 11),.op (.mov (.t 0)),none⟩,
    ⟨(some 12),.op (.len true (.t 11)),none⟩,
    ⟨(some 13),.op (.bin .sub (.t 12) (.c (.i .i64 1))),none⟩,
    ⟨(some 5),.op (.mov (.t 13)),none⟩])
  (.blk 0 (.loop (.seq (.seq (.reg false [⟨(some 14),.op (.mov (.t 5)),none⟩,
    ⟨(some 15),.op (.bin .geq (.t 14) (.c (.i .i64 0))),none⟩])
  (.cond (.t 15) (.skip) (.exit 0)))
  (.seq (.blk 1 (.seq (.reg false [⟨(some 18),.op (.mov (.t 0)),none⟩,
    ⟨(some 19),.op (.mov (.t 5)),none⟩,
    ⟨(some 20),.op (.idxS (.t 18) (.t 19)),none⟩,
    ⟨(some 21),.op (.bin .eql (.t 20) (.c (.i .u8 58))),none⟩])
  (.cond (.t 21) (.reg false [⟨(some 22),.op (.mov (.t 5)),none⟩,
    ⟨(some 4),.op (.mov (.t 22)),none⟩]) (.skip))))
  (.reg false [⟨(some 16),.op (.mov (.t 5)),none⟩,
    ⟨(some 17),.op (.bin .sub (.t 16) (.c (.i .i64 1))),none⟩,
    ⟨(some 5),.op (.mov (.t 17)),none⟩]))))))
  (.seq (.reg false [⟨(some 23),.op (.mov (.t 0)),none⟩,
    ⟨(some 24),.op (.mov (.t 4)),none⟩,
    ⟨(some 25),.op (.slcStr (.t 23) none (some (.t 24))),none⟩,
    ⟨(some 26),.op (.build [.s [],.i .u32 0,.b false] [(0,1,(.t 25))]),none⟩,
    ⟨(some 6),.op (.alloc [.s [],.i .u32 0,.b false]),none⟩,
    ⟨none,.op (.store 3 (.t 6) (.t 26)),none⟩])
  (.cut (ir_vestibuleref15_Read_c4 f_vestibuleref10_Errno)))))⟩
theorem idxB_cons (c x:UInt8) (xs:List UInt8) (j:Nat):idxB c (x :: xs) j = if x = c then (j:Int) else idxB c xs (j + 1):=by
  rw [idxB]
theorem idxB_shift (c:UInt8):∀ (xs:List UInt8) (j:Nat),idxB c xs j = if idxB c xs 0 = -1 then -1 else idxB c xs 0 + j
  | [],j=>by simp [idxB]
  | x :: xs,j=>by
    rw [idxB_cons,idxB_cons]
    by_cases h:x = c
    · simp [h]
    · rw [if_neg h,if_neg h,idxB_shift c xs (j + 1),idxB_shift c xs (0 + 1)]
      rcases idxB_range c xs 0 with h1 | ⟨i,h1,_⟩
      · simp [h1]
      · rw [h1]
        rw [if_neg (by omega),if_neg (by omega),if_neg (by omega)]
        omega
noncomputable def fcI (s:List UInt8) (j:Nat):Int:=if idxB 58 (s.drop j) 0 = -1 then (s.length:Int) else (j:Int) + idxB 58 (s.drop j) 0
theorem fcI_step {s:List UInt8} {j:Nat} (h:j < s.length):fcI s j = if s[j] = 58 then (j:Int) else fcI s (j + 1):=by
  unfold fcI
  rw [List.drop_eq_getElem_cons h,idxB_cons]
  by_cases hc:s[j] = 58
  · simp [hc]
  · rw [if_neg hc,if_neg hc,idxB_shift 58 _ (0 + 1)]
    rcases idxB_range 58 (s.drop (j + 1)) 0 with h1 | ⟨i,h1,_⟩
    · simp [h1]
    · rw [h1,if_neg (by omega),if_neg (by omega),if_neg (by omega)]
      omega
theorem read_tail {g:Nat} (hg:∀ s:List UInt8,s.length ≤ 1000000 → Pure P g [.s s] (.tup [.i .u32 (errnoM s).1,.i .i64 (errnoM s).2])) (s:List UInt8) (hs:s.length ≤ 1000000) :
    S P 0 (ir_vestibuleref15_Read_c4 g) (endX [.cell 2 3 true,.tmp 3] fun v' h'=>Frz h' v' (.tup [.agg (cWord (readM s).1),.i .i64 (readM s).2])) (mkT [(0,.s s),(2,.ptr 0 0),(3,.i .i64 0),(4,.i .i64 (fcI s 0)),(6,.ptr 1 0)]) (mkH 0 [.cells 0 true false [.s [],.i .u32 0,.b false],.cells 0 true false [.s (s.take (fcI s 0).toNat),.i .u32 0,.b false]]):=by
  refine V_sound ?_
  simp only [ir_vestibuleref15_Read_c4,argsT,H0,mkT,mkH,trL,List.length_cons,List.length_nil,Nat.reduceAdd,Nat.zero_add]
  rcases idxB_range 58 s 0 with h1 | ⟨i,h1,hi⟩
  · have hf:fcI s 0 = (s.length:Int):=by unfold fcI; rw [List.drop_zero,if_pos h1]
    have hcut:cutM s = (s,[],false):=by unfold cutM; rw [h1]; rfl
    have htk:s.take ((s.length:Int)).toNat = s:=by simp
    rw [hf,htk]
    by_cases h0:s = []
    · have hw:readM s = (⟨[],0,false⟩,161):=by unfold readM; rw [hcut,if_pos h0]
      rw [hw]
      simp only [↓vS,cvF_pc,vP,shb,shv,shvs,she_nil,she_cons,vC,vQ,not_false_eq_true,Nat.reduceEqDiff,↓reduceIte,eq_self,Nat.reduceAdd,Nat.reduceMul,Nat.reduceSub,Nat.reduceLeDiff,Nat.reduceLT,defd,cellsOf,wr,packR,Int.reduceLE,Int.reduceLT,Int.reduceEq,Int.cast_ofNat_Int,Int.reduceToNat,h0,List.length_nil]
      simp [vZ,vP,Tr.get_set,cWord]
    · have hn:¬ (s.length:Int) = 0:=by have:=List.length_pos_iff.2 h0; omega
      have hw:readM s = (⟨s,0,false⟩,0):=by unfold readM; rw [hcut,if_neg h0,if_pos rfl]
      rw [hw]
      simp only [↓vS,cvF_pc,vP,shb,shv,shvs,she_nil,she_cons,vC,vQ,not_false_eq_true,Nat.reduceEqDiff,↓reduceIte,eq_self,Nat.reduceAdd,Nat.reduceMul,Nat.reduceSub,Nat.reduceLeDiff,Nat.reduceLT,defd,cellsOf,wr,packR,Int.reduceLE,Int.reduceLT,Int.reduceEq,Int.cast_ofNat_Int,Int.reduceToNat,hn]
      simp [vZ,vP,Tr.get_set,cWord]
  · rw [Nat.zero_add] at h1
    have hf:fcI s 0 = (i:Int):=by unfold fcI; rw [List.drop_zero,h1,if_neg (by omega)]; simp
    have hcut:cutM s = (s.take i,s.drop (i + 1),true):=by unfold cutM; rw [h1,if_pos (by omega)]; rfl
    have htk:s.take ((i:Int)).toNat = s.take i:=rfl
    rw [hf,htk]
    by_cases h0:i = 0
    · have hw:readM s = (⟨[],0,false⟩,161):=by unfold readM; rw [hcut,h0,if_pos (by simp)]
      rw [hw]
      simp only [↓vS,cvF_pc,vP,shb,shv,shvs,she_nil,she_cons,vC,vQ,not_false_eq_true,Nat.reduceEqDiff,↓reduceIte,eq_self,Nat.reduceAdd,Nat.reduceMul,Nat.reduceSub,Nat.reduceLeDiff,Nat.reduceLT,defd,cellsOf,wr,packR,Int.reduceLE,Int.reduceLT,Int.reduceEq,Int.cast_ofNat_Int,Int.reduceToNat,h0]
      simp [vZ,vP,Tr.get_set,cWord]
    · have hi0:¬ (i:Int) = 0:=by omega
      have hil:¬ (i:Int) = s.length:=by omega
      have htn:¬ s.take i = []:=by intro h; have:=congrArg List.length h; simp at this; rcases this with h | h <;> simp_all
      have hw1:IntKind.wrap .i64 ((i:Int) + 1) = ((i + 1:Nat):Int):=by rw [wrap64 (by omega) (by omega)]; omega
      have hb:i + 1 ≤ s.length:=hi
      by_cases e3:s.drop (i + 1) = [107,105,108,108]
      · have hw:readM s = (⟨s.take i,2147483648,true⟩,0):=by unfold readM; rw [hcut]; dsimp only; rw [if_neg htn,if_neg (by decide),if_pos (show s.drop (i + 1) = killW from e3)]
        rw [hw]
        have e3':(s.drop (i + 1) = [107,105,108,108]) = True:=eq_true e3
        simp only [↓vS,cvF_pc,vP,shb,shv,shvs,she_nil,she_cons,vC,vQ,not_false_eq_true,Nat.reduceEqDiff,↓reduceIte,eq_self,Nat.reduceAdd,Nat.reduceMul,Nat.reduceSub,Nat.reduceLeDiff,Nat.reduceLT,defd,cellsOf,wr,packR,Int.reduceLE,Int.reduceLT,Int.reduceEq,Int.cast_ofNat_Int,Int.reduceToNat,hi0,hil,hw1,hb,List.take_length,e3']
        simp [vZ,vP,Tr.get_set,cWord]
      · simp only [↓vS,cvF_pc,vP,shb,shv,shvs,she_nil,she_cons,vC,vQ,not_false_eq_true,Nat.reduceEqDiff,↓reduceIte,eq_self,Nat.reduceAdd,Nat.reduceMul,Nat.reduceSub,Nat.reduceLeDiff,Nat.reduceLT,defd,cellsOf,wr,packR,Int.reduceLE,Int.reduceLT,Int.reduceEq,Int.cast_ofNat_Int,Int.reduceToNat,hi0,hil,hw1,hb,List.take_length,e3]
        refine (hg (s.drop (i + 1)) (by simp; omega)).sc ?_
        obtain ⟨q0,q1,q2⟩:=errnoM_ok (s.drop (i + 1))
        by_cases e4:(errnoM (s.drop (i + 1))).2 = 0
        · have hw:readM s = (⟨s.take i,327680 + (errnoM (s.drop (i + 1))).1,true⟩,0):=by unfold readM; rw [hcut]; dsimp only; rw [if_neg htn,if_neg (by decide),if_neg (show ¬ s.drop (i + 1) = killW from e3),if_pos e4]
          rw [hw]
          have hwr:=wrapu32 (x:=327680 + (errnoM (s.drop (i + 1))).1) (by omega) (by omega)
          simp only [↓vS,cvF_pc,vP,shb,shv,shvs,she_nil,she_cons,vC,vQ,not_false_eq_true,Nat.reduceEqDiff,↓reduceIte,eq_self,Nat.reduceAdd,Nat.reduceMul,Nat.reduceSub,Nat.reduceLeDiff,Nat.reduceLT,defd,cellsOf,wr,packR,Int.reduceLE,Int.reduceLT,Int.reduceEq,Int.cast_ofNat_Int,Int.reduceToNat,hi0,hil,hw1,hb,List.take_length,e4,hwr]
          simp [vZ,vP,Tr.get_set,cWord]
        · have hw:readM s = (⟨[],0,false⟩,160):=by unfold readM; rw [hcut]; dsimp only; rw [if_neg htn,if_neg (by decide),if_neg (show ¬ s.drop (i + 1) = killW from e3),if_neg e4]; rcases q2 with h | h; exact absurd h e4; rw [h]
          rw [hw]
          simp only [↓vS,cvF_pc,vP,shb,shv,shvs,she_nil,she_cons,vC,vQ,not_false_eq_true,Nat.reduceEqDiff,↓reduceIte,eq_self,Nat.reduceAdd,Nat.reduceMul,Nat.reduceSub,Nat.reduceLeDiff,Nat.reduceLT,defd,cellsOf,wr,packR,Int.reduceLE,Int.reduceLT,Int.reduceEq,Int.cast_ofNat_Int,Int.reduceToNat,hi0,hil,hw1,hb,List.take_length,e4]
          simp [vZ,vP,Tr.get_set,cWord]
theorem read15 {g:Nat} (hc:chkFn P f (ir_vestibuleref15_Read g) = true) (hg:∀ s:List UInt8,s.length ≤ 1000000 → Pure P g [.s s] (.tup [.i .u32 (errnoM s).1,.i .i64 (errnoM s).2])) (s:List UInt8) (hs:s.length ≤ 1000000):Pure P f [.s s] (.tup [.agg (cWord (readM s).1),.i .i64 (readM s).2]):=by
  refine Pure.mk hc rfl ?_
  simp only [ir_vestibuleref15_Read,argsT,H0,mkT,mkH,trL,List.length_cons,List.length_nil,Nat.reduceAdd,Nat.zero_add]
  have hw0:IntKind.wrap .i64 ((s.length:Int) - 1) = (s.length:Int) - 1:=wrap64 (by omega) (by omega)
  simp only [↓vS,cvF_pc,vP,shb,shv,shvs,she_nil,she_cons,vC,vQ,not_false_eq_true,Nat.reduceEqDiff,↓reduceIte,eq_self,Nat.reduceAdd,Nat.reduceMul,Nat.reduceSub,Nat.reduceLeDiff,Nat.reduceLT,defd,cellsOf,wr,packR,Int.reduceLE,Int.reduceLT,Int.reduceEq,Int.cast_ofNat_Int,Int.reduceToNat,hw0]
  have hfl:fcI s s.length = (s.length:Int):=by unfold fcI; rw [List.drop_of_length_le (Nat.le_refl _)]; rfl
  refine SL.loop (α:=Nat) (fun j=>[(0,.s s),(2,.ptr 0 0),(3,.i .i64 0),(4,.i .i64 (fcI s j)),(5,.i .i64 ((j:Int) - 1))]) (fun _=>[.cells 0 true false [.s [],.i .u32 0,.b false]]) (fun j=>j ≤ s.length) (fun j=>j) s.length [0] ?_ ?_ ?_ rfl ?_ ?_
  · simp [vW,bw_map,mapAt_map,mapClo_it,mapClo_nil,mapClo_cons,vP,vZ,Tr.get_set,hfl]
  · simp [vW,bw_map,mapAt_map,mapClo_it,mapClo_nil,mapClo_cons,vP,vZ,Tr.get_set]
  · simp
  · exact Nat.le_refl _
  rintro j hj G ih
  simp only [argsT,H0,mkT,mkH,trL,List.length_cons,List.length_nil,Nat.reduceAdd,Nat.zero_add]
  cases j with
  | zero =>
    have hn:¬ (0:Int) ≤ -1:=by decide
    have e0:((0:Nat):Int) - 1 = -1:=rfl
    have hr:0 ≤ fcI s 0 ∧ (fcI s 0).toNat ≤ s.length:=by
      unfold fcI
      rcases idxB_range 58 (s.drop 0) 0 with h1 | ⟨i,h1,h2⟩
      · rw [h1,if_pos rfl]; omega
      · rw [h1,if_neg (by omega)]; simp at h2 ⊢; omega
    simp only [↓vS,cvF_pc,vP,shb,shv,shvs,she_nil,she_cons,vC,vQ,not_false_eq_true,Nat.reduceEqDiff,↓reduceIte,eq_self,Nat.reduceAdd,Nat.reduceMul,Nat.reduceSub,Nat.reduceLeDiff,Nat.reduceLT,defd,cellsOf,wr,packR,Int.reduceLE,Int.reduceLT,Int.reduceEq,Int.cast_ofNat_Int,Int.reduceToNat,e0,hn,hr.1,hr.2,List.drop_zero]
    refine S.weak (Wk.mk _ _ [0,1] ?_ ?_ ?_ rfl) (read_tail hg s hs)
    · simp [vW,bw_map,mapAt_map,mapClo_it,mapClo_nil,mapClo_cons,vP,vZ,Tr.get_set]
    · simp [vW,bw_map,mapAt_map,mapClo_it,mapClo_nil,mapClo_cons,vP,vZ,Tr.get_set]
    · simp
  | succ j =>
    have hp:(0:Int) ≤ ((j + 1:Nat):Int) - 1:=by omega
    have e1:((j + 1:Nat):Int) - 1 = (j:Int):=by omega
    have hlt:j < s.length:=by omega
    have hx:s[j]? = some s[j]:=List.getElem?_eq_getElem hlt
    have hw:IntKind.wrap .i64 ((j:Int) - 1) = (j:Int) - 1:=wrap64 (by omega) (by omega)
    have hstep:=fcI_step hlt
    have ih2:=ih j (by omega) (by omega)
    rw [hstep] at ih2
    by_cases h58:s[j] = 58
    · have h58':(s[j].toNat:Int) = 58:=by rw [h58]; rfl
      rw [if_pos h58] at ih2
      have hjp:(0:Int) ≤ (j:Int):=by omega
      simp only [↓vS,cvF_pc,vP,shb,shv,shvs,she_nil,she_cons,vC,vQ,not_false_eq_true,Nat.reduceEqDiff,↓reduceIte,eq_self,Nat.reduceAdd,Nat.reduceMul,Nat.reduceSub,Nat.reduceLeDiff,Nat.reduceLT,defd,cellsOf,wr,packR,Int.reduceLE,Int.reduceLT,Int.reduceEq,Int.cast_ofNat_Int,Int.reduceToNat,hp,e1,hjp,hlt,hx,h58',hw]
      refine ih2 _ _ (Wk.mk _ _ [0] ?_ ?_ ?_ rfl)
      · simp [vW,bw_map,mapAt_map,mapClo_it,mapClo_nil,mapClo_cons,vP,vZ,Tr.get_set]
      · simp [vW,bw_map,mapAt_map,mapClo_it,mapClo_nil,mapClo_cons,vP,vZ,Tr.get_set]
      · simp
    · have h58':¬ (s[j].toNat:Int) = 58:=by intro h; apply h58; rw [← UInt8.toNat_inj]; simp; omega
      rw [if_neg h58] at ih2
      have hjp:(0:Int) ≤ (j:Int):=by omega
      simp only [↓vS,cvF_pc,vP,shb,shv,shvs,she_nil,she_cons,vC,vQ,not_false_eq_true,Nat.reduceEqDiff,↓reduceIte,eq_self,Nat.reduceAdd,Nat.reduceMul,Nat.reduceSub,Nat.reduceLeDiff,Nat.reduceLT,defd,cellsOf,wr,packR,Int.reduceLE,Int.reduceLT,Int.reduceEq,Int.cast_ofNat_Int,Int.reduceToNat,hp,e1,hjp,hlt,hx,h58',hw]
      refine ih2 _ _ (Wk.mk _ _ [0] ?_ ?_ ?_ rfl)
      · simp [vW,bw_map,mapAt_map,mapClo_it,mapClo_nil,mapClo_cons,vP,vZ,Tr.get_set]
      · simp [vW,bw_map,mapAt_map,mapClo_it,mapClo_nil,mapClo_cons,vP,vZ,Tr.get_set]
      · simp
end Go.Kc
end
section
/- What the document says of lists. Condition: the functions' texts are these. -/
namespace Go.Kc
variable {P:Program} {f:Nat}
def tab9:List (List UInt8 × List Int):=[([98,105,110,100],[49,361,1073741873,282,200,200]),([98,112,102],[321,357,1073742145,386,280,280]),([98,114,107],[12,45,1073741836,45,214,214]),([99,108,111,99,107,95,115,101,116,116,105,109,101],[227,264,1073742051,262,112,112]),([99,108,111,110,101],[56,120,1073741880,120,220,220]),([99,108,111,110,101,51],[435,435,-1,435,435,435]),([99,108,111,115,101],[3,6,1073741827,6,57,57]),([99,111,110,110,101,99,116],[42,362,1073741866,283,203,203]),([100,101,108,101,116,101,95,109,111,100,117,108,101],[176,129,1073742000,129,106,106]),([101,120,101,99,118,101],[59,11,1073742344,11,221,221]),([101,120,105,116],[60,1,1073741884,1,93,93]),([102,105,110,105,116,95,109,111,100,117,108,101],[313,350,1073742137,379,273,273]),([102,111,114,107],[57,2,1073741881,2,-1,-1]),([103,101,116,117,105,100],[102,24,1073741926,24,174,174]),([105,110,105,116,95,109,111,100,117,108,101],[175,128,-1,128,105,105]),([105,111,99,116,108],[16,54,1073742338,54,29,29]),([107,105,108,108],[62,37,1073741886,37,129,129]),([108,105,115,116,101,110],[50,363,1073741874,284,201,201]),([109,109,97,112],[9,90,1073741833,-1,222,222]),([109,111,117,110,116],[165,21,1073741989,21,40,40]),([109,112,114,111,116,101,99,116],[10,125,1073741834,125,226,226]),([109,117,110,109,97,112],[11,91,1073741835,91,215,215]),([111,112,101,110],[2,5,1073741826,5,-1,-1]),([111,112,101,110,97,116],[257,295,1073742081,322,56,56]),([112,101,114,115,111,110,97,108,105,116,121],[135,136,1073741959,136,92,92]),([112,107,101,121,95,109,112,114,111,116,101,99,116],[329,380,1073742153,394,288,-1]),([112,116,114,97,99,101],[101,26,1073742345,26,117,117]),([114,101,97,100],[0,3,1073741824,3,63,63]),([114,101,98,111,111,116],[169,88,1073741993,88,142,142]),([115,99,104,101,100,95,115,101,116,97,116,116,114],[314,351,1073742138,380,274,274]),([115,99,104,101,100,95,115,101,116,115,99,104,101,100,117,108,101,114],[144,156,1073741968,156,119,119]),([115,101,99,99,111,109,112],[317,354,1073742141,383,277,277]),([115,101,116,110,115],[308,346,1073742132,375,268,268]),([115,101,116,116,105,109,101,111,102,100,97,121],[164,79,1073741988,79,170,170]),([115,101,116,117,105,100],[105,23,1073741929,23,146,146]),([115,104,109,97,116],[30,397,-1,305,196,196]),([115,111,99,107,101,116],[41,359,1073741865,281,198,198]),([117,109,111,117,110,116,50],[166,52,1073741990,52,39,39]),([117,110,115,104,97,114,101],[272,310,1073742096,337,97,97]),([119,114,105,116,101],[1,4,1073741825,4,64,64])]
def row9 (x:List UInt8 × List Int):List AV:=[.s x.1,.fz 6 (rI .i64 x.2)]
theorem row9_len (x:List UInt8 × List Int):(row9 x).length = 2:=rfl
theorem tab9_names:tab9.map (·.1) = tab_calls.map (·.1):=rfl
def cTab9 (P:Program) (f:Nat):Prop:=Pure P f [] (.fz 40 (tab9.flatMap row9))
theorem knownM_iff (s:List UInt8):knownM s = true ↔ s ∈ tab9.map (·.1):=by
  rw [tab9_names]
  constructor
  · exact knownM_mem
  · intro h
    obtain ⟨x,hx,rfl⟩:=List.mem_map.1 h
    unfold knownM
    rw [List.find?_isSome]
    exact ⟨x,hx,by simp⟩
def ir_vestibuleref09_Known (f_vestibuleref09_Table:Nat):IFn:=⟨[.tmp 2],
  .seq (.reg false [⟨(some 2),.op (.mov (.c (.b false))),none⟩])
  (.seq (.reg false [⟨(some 5),.callF f_vestibuleref09_Table [],none⟩,
    ⟨(some 3),.op (.mov (.t 5)),none⟩])
  (.seq (.seq (.reg false [⟨(some 4),.op (.mov (.c (.i .i64 0))),none⟩])
  (.blk 0 (.loop (.seq (.seq (.reg false [⟨(some 6),.op (.mov (.t 4)),none⟩,
    ⟨(some 7),.op (.mov (.t 3)),none⟩,
    ⟨(some 8),.op (.len false (.t 7)),none⟩,
    ⟨(some 9),.op (.bin .lss (.t 6) (.t 8)),none⟩])
  (.cond (.t 9) (.skip) (.exit 0)))
  (.seq (.blk 1 (.seq (.reg false [⟨(some 12),.op (.mov (.t 3)),none⟩,
    ⟨(some 13),.op (.mov (.t 4)),none⟩,
    ⟨(some 14),.op (.iAddrS 2 (.t 12) (.t 13)),none⟩,
    ⟨(some 15),.op (.fAddr 0 (.t 14)),none⟩,
    ⟨(some 16),.op (.load1 (.t 15)),none⟩,
    ⟨(some 17),.op (.mov (.t 0)),none⟩,
    ⟨(some 18),.op (.bin .eql (.t 16) (.t 17)),none⟩])
  (.cond (.t 18) (.seq (.reg false [⟨(some 2),.op (.mov (.c (.b true))),none⟩])
  (.ret)) (.skip))))
  (.reg false [⟨(some 10),.op (.mov (.t 4)),none⟩,
    ⟨(some 11),.op (.bin .add (.t 10) (.c (.i .i64 1))),none⟩,
    ⟨(some 4),.op (.mov (.t 11)),none⟩]))))))
  (.seq (.reg false [⟨(some 2),.op (.mov (.c (.b false))),none⟩])
  (.ret))))⟩
theorem known9 {g1:Nat} (hc:chkFn P f (ir_vestibuleref09_Known g1) = true) (h1:cTab9 P g1) (s:List UInt8):Pure P f [.s s] (.b (knownM s)):=by
  refine Pure.mk hc rfl ?_
  simp only [ir_vestibuleref09_Known,argsT,H0,mkT,mkH,trL,List.length_cons,List.length_nil,Nat.reduceAdd,Nat.zero_add]
  simp only [↓vS,cvF_pc,vP,shb,shv,shvs,she_nil,she_cons,vC,vQ,not_false_eq_true,Nat.reduceEqDiff,↓reduceIte,eq_self,Nat.reduceAdd,Nat.reduceMul,Nat.reduceSub,Nat.reduceLeDiff,Nat.reduceLT,defd,cellsOf,wr,packR,Int.reduceLE,Int.reduceLT,Int.reduceEq,Int.cast_ofNat_Int,Int.reduceToNat]
  refine h1.sc ?_
  have h40:tab9.length = 40:=by decide
  have hlen:(tab9.flatMap row9).length = 80:=by rw [flat_length row9_len,h40]
  have hcl:clos (tab9.flatMap row9) = true:=clos_flat fun _=>rfl
  have hget:∀ j r,tab9[j]? = some r → (tab9.flatMap row9)[j * 2]? = some (.s r.1):=fun j r h=>flat_get (m:=2) row9_len h (i:=0) (by decide)
  generalize hT:tab9.flatMap row9 = T at hlen hcl hget
  simp only [↓vS,cvF_pc,vP,shb,shv,shvs,she_nil,she_cons,vC,vQ,not_false_eq_true,Nat.reduceEqDiff,↓reduceIte,eq_self,Nat.reduceAdd,Nat.reduceMul,Nat.reduceSub,Nat.reduceLeDiff,Nat.reduceLT,defd,cellsOf,wr,packR,Int.reduceLE,Int.reduceLT,Int.reduceEq,Int.cast_ofNat_Int,Int.reduceToNat]
  refine SL.loop (α:=Nat) (fun j=>[(0,.s s),(3,.fz 40 T),(4,.i .i64 j)]) (fun _=>[]) (fun j=>j ≤ 40 ∧ ∀ r ∈ tab9.take j,r.1 ≠ s) (fun j=>40 - j) 0 [] ?_ ?_ ?_ rfl ?_ ?_
  · simp [vW,bw_map,mapAt_map,mapClo_it,mapClo_nil,mapClo_cons,vP,vZ,Tr.get_set,hcl]
  · trivial
  · simp
  · exact ⟨Nat.zero_le _,fun r hr=>by cases hr⟩
  rintro j ⟨hj,hI⟩ G ih
  simp only [argsT,H0,mkT,mkH,trL,List.length_cons,List.length_nil,Nat.reduceAdd,Nat.zero_add]
  by_cases hlt:j < 40
  · have hx:tab9[j]? = some (tab9[j]'(by omega)):=List.getElem?_eq_getElem (by omega)
    have hw:IntKind.wrap .i64 ((j:Int) + 1) = ((j + 1:Nat):Int):=by rw [wrap64 (by omega) (by omega)]; omega
    have hlt':(j:Int) < 40:=by omega
    have ht:tab9.take (j + 1) = tab9.take j ++ [tab9[j]'(by omega)]:=by rw [List.take_add_one,hx]; rfl
    have hmem:(tab9[j]'(by omega)) ∈ tab9:=List.getElem_mem _
    have g0:=hget j _ hx
    generalize (tab9[j]'(by omega)) = r at hx ht hmem g0
    by_cases he:r.1 = s
    · have hk:knownM s = true:=(knownM_iff s).2 (List.mem_map.2 ⟨r,hmem,he⟩)
      simp only [↓vS,cvF_pc,vP,shb,shv,shvs,she_nil,she_cons,vC,vQ,not_false_eq_true,Nat.reduceEqDiff,↓reduceIte,eq_self,Nat.reduceAdd,Nat.reduceMul,Nat.reduceSub,Nat.reduceLeDiff,Nat.reduceLT,defd,cellsOf,wr,packR,Int.reduceLE,Int.reduceLT,Int.reduceEq,Int.cast_ofNat_Int,Int.reduceToNat,hlt,hlt',g0,he]
      simp [vZ,hk]
    · simp only [↓vS,cvF_pc,vP,shb,shv,shvs,she_nil,she_cons,vC,vQ,not_false_eq_true,Nat.reduceEqDiff,↓reduceIte,eq_self,Nat.reduceAdd,Nat.reduceMul,Nat.reduceSub,Nat.reduceLeDiff,Nat.reduceLT,defd,cellsOf,wr,packR,Int.reduceLE,Int.reduceLT,Int.reduceEq,Int.cast_ofNat_Int,Int.reduceToNat,hlt,hlt',g0,he,hw]
      refine ih (j + 1) ⟨by omega,?_⟩ (by omega) _ _ (Wk.mk _ _ [] ?_ ?_ ?_ rfl)
      · intro q hq
        rw [ht] at hq
        rcases List.mem_append.1 hq with h | h
        · exact hI q h
        · rw [List.mem_singleton.1 h]; exact he
      · simp [vW,bw_map,mapAt_map,mapClo_it,mapClo_nil,mapClo_cons,vP,vZ,Tr.get_set,hcl]
      · trivial
      · simp
  · have hlt':¬ (j:Int) < 40:=by omega
    have hk:knownM s = false:=by
      rw [Bool.eq_false_iff]
      intro h
      obtain ⟨r,hr,he⟩:=List.mem_map.1 ((knownM_iff s).1 h)
      exact hI r (by rw [List.take_of_length_le (by omega)]; exact hr) he
    simp only [↓vS,cvF_pc,vP,shb,shv,shvs,she_nil,she_cons,vC,vQ,not_false_eq_true,Nat.reduceEqDiff,↓reduceIte,eq_self,Nat.reduceAdd,Nat.reduceMul,Nat.reduceSub,Nat.reduceLeDiff,Nat.reduceLT,defd,cellsOf,wr,packR,Int.reduceLE,Int.reduceLT,Int.reduceEq,Int.cast_ofNat_Int,Int.reduceToNat,hlt']
    simp [vZ,hk]
def Rng (l:List GCall):Prop:=∀ c ∈ l,0 ≤ c.act ∧ c.act ≤ 4294967295
theorem may_rng {l:GList} (h:mayM l = true):Rng l.calls:=by
  intro c hc
  have h1:=((mayM_iff l).1 h).2.1 c hc
  simp only [okC,actM,Bool.and_eq_true,Bool.or_eq_true,decide_eq_true_eq] at h1
  omega
def cMayR (P:Program) (f:Nat):Prop:=∀ l:GList,l.calls.length ≤ 100000 → Rng l.calls → Pure P f [.agg (cList l)] (.b (mayM l))
theorem tdiv_facts {a:Int} (h:0 ≤ a):a = 65536 * a.tdiv 65536 + a.tmod 65536 ∧ 0 ≤ a.tmod 65536 ∧ a.tmod 65536 < 65536:=by
  rw [Int.tdiv_eq_ediv_of_nonneg h,Int.tmod_eq_emod_of_nonneg h]; omega
theorem tdiv_rng {a:Int} (h0:0 ≤ a) (h1:a ≤ 4294967295):0 ≤ a.tdiv 65536 ∧ a.tdiv 65536 < 4294967296:=by
  have:=tdiv_facts h0; omega
theorem actM_tdiv {a:Int} (h0:0 ≤ a) (h1:a ≤ 4294967295):actM a = (decide (a = 0) || decide (a = 2147483648) || (decide (a.tdiv 65536 = 5) && decide (a.tmod 65536 ≤ 4095))):=by
  have:=tdiv_facts h0
  unfold actM
  rw [Bool.eq_iff_iff]
  simp only [Bool.or_eq_true,Bool.and_eq_true,decide_eq_true_eq]
  omega
def ir_vestibuleref16_May_c2 (f_vestibuleref09_Known:Nat):ICode:=.seq (.seq (.reg false [⟨(some 3),.op (.mov (.c (.i .i64 0))),none⟩])
  (.blk 0 (.loop (.seq (.seq (.reg false [⟨(some 19),.op (.mov (.t 3)),none⟩,
    ⟨(some 20),.op (.fAddr 1 (.t 1)),none⟩,
    ⟨(some 21),.op (.load1 (.t 20)),none⟩,
    ⟨(some 22),.op (.len false (.t 21)),none⟩,
    ⟨(some 23),.op (.bin .lss (.t 19) (.t 22)),none⟩])
  (.cond (.t 23) (.skip) (.exit 0)))
  (.seq (.blk 1 (.seq (.reg false [⟨(some 26),.op (.fAddr 1 (.t 1)),none⟩,
    ⟨(some 27),.op (.load1 (.t 26)),none⟩,
    ⟨(some 28),.op (.mov (.t 3)),none⟩,
    ⟨(some 29),.op (.iAddrS 2 (.t 27) (.t 28)),none⟩,
    ⟨(some 30),.op (.fAddr 1 (.t 29)),none⟩,
    ⟨(some 31),.op (.load1 (.t 30)),none⟩,
    ⟨(some 4),.op (.mov (.t 31)),none⟩])
  (.seq (.seq (.reg true [⟨(some 32),.op (.fAddr 1 (.t 1)),none⟩,
    ⟨(some 33),.op (.load1 (.t 32)),none⟩,
    ⟨(some 34),.op (.mov (.t 3)),none⟩,
    ⟨(some 35),.op (.iAddrS 2 (.t 33) (.t 34)),none⟩,
    ⟨(some 36),.op (.fAddr 0 (.t 35)),none⟩,
    ⟨(some 37),.op (.load1 (.t 36)),none⟩,
    ⟨(some 38),.callF f_vestibuleref09_Known [(.t 37)],none⟩,
    ⟨(some 39),.op (.un .not (.t 38)),none⟩,
    ⟨(some 40),.op (.mov (.t 39)),none⟩,
    ⟨(some 41),.op (.mov (.t 3)),(some (40,false))⟩,
    ⟨(some 42),.op (.bin .gtr (.t 41) (.c (.i .i64 0))),(some (40,false))⟩,
    ⟨(some 43),.op (.mov (.t 42)),(some (40,false))⟩,
    ⟨(some 44),.op (.fAddr 1 (.t 1)),(some (43,true))⟩,
    ⟨(some 45),.op (.load1 (.t 44)),(some (43,true))⟩,
    ⟨(some 46),.op (.mov (.t 3)),(some (43,true))⟩,
    ⟨(some 47),.op (.bin .sub (.t 46) (.c (.i .i64 1))),(some (43,true))⟩,
    ⟨(some 48),.op (.iAddrS 2 (.t 45) (.t 47)),(some (43,true))⟩,
    ⟨(some 49),.op (.fAddr 0 (.t 48)),(some (43,true))⟩,
    ⟨(some 50),.op (.load1 (.t 49)),(some (43,true))⟩,
    ⟨(some 51),.op (.fAddr 1 (.t 1)),(some (43,true))⟩,
    ⟨(some 52),.op (.load1 (.t 51)),(some (43,true))⟩,
    ⟨(some 53),.op (.mov (.t 3)),(some (43,true))⟩,
    ⟨(some 54),.op (.iAddrS 2 (.t 52) (.t 53)),(some (43,true))⟩,
    ⟨(some 55),.op (.fAddr 0 (.t 54)),(some (43,true))⟩,
    ⟨(some 56),.op (.load1 (.t 55)),(some (43,true))⟩,
    ⟨(some 57),.op (.bin .geq (.t 50) (.t 56)),(some (43,true))⟩,
    ⟨(some 58),.op (.pick (.t 43) (.t 57) (.c (.b false))),(some (40,false))⟩,
    ⟨(some 59),.op (.pick (.t 40) (.c (.b true)) (.t 58)),none⟩])
  (.cond (.t 59) (.seq (.reg false [⟨(some 2),.op (.mov (.c (.b false))),none⟩])
  (.ret)) (.skip)))
  (.seq (.reg false [⟨(some 60),.op (.mov (.t 4)),none⟩,
    ⟨(some 61),.op (.bin .neq (.t 60) (.c (.i .u32 0))),none⟩,
    ⟨(some 62),.op (.mov (.t 61)),none⟩,
    ⟨(some 63),.op (.mov (.t 4)),(some (62,true))⟩,
    ⟨(some 64),.op (.bin .neq (.t 63) (.c (.i .u32 2147483648))),(some (62,true))⟩,
    ⟨(some 65),.op (.pick (.t 62) (.t 64) (.c (.b false))),none⟩,
    ⟨(some 66),.op (.mov (.t 65)),none⟩,
    ⟨(some 67),.op (.mov (.t 4)),(some (66,true))⟩,
    ⟨(some 68),.op (.bin .quo (.t 67) (.c (.i .u32 65536))),(some (66,true))⟩,
    ⟨(some 69),.op (.bin .neq (.t 68) (.c (.i .u32 5))),(some (66,true))⟩,
    ⟨(some 70),.op (.mov (.t 69)),(some (66,true))⟩,
    ⟨(some 71),.op (.mov (.t 4)),(some (70,false))⟩,
    ⟨(some 72),.op (.bin .rem (.t 71) (.c (.i .u32 65536))),(some (70,false))⟩,
    ⟨(some 73),.op (.bin .gtr (.t 72) (.c (.i .u32 4095))),(some (70,false))⟩,
    ⟨(some 74),.op (.pick (.t 70) (.c (.b true)) (.t 73)),(some (66,true))⟩,
    ⟨(some 75),.op (.pick (.t 66) (.t 74) (.c (.b false))),none⟩])
  (.cond (.t 75) (.seq (.reg false [⟨(some 2),.op (.mov (.c (.b false))),none⟩])
  (.ret)) (.skip))))))
  (.reg false [⟨(some 24),.op (.mov (.t 3)),none⟩,
    ⟨(some 25),.op (.bin .add (.t 24) (.c (.i .i64 1))),none⟩,
    ⟨(some 3),.op (.mov (.t 25)),none⟩]))))))
  (.seq (.reg false [⟨(some 2),.op (.mov (.c (.b true))),none⟩])
  (.ret))
def ir_vestibuleref16_May (f_vestibuleref09_Known:Nat):IFn:=⟨[.tmp 2],
  .seq (.reg false [⟨(some 1),.op (.box (.t 0)),none⟩,
    ⟨(some 2),.op (.mov (.c (.b false))),none⟩])
  (.seq (.seq (.reg false [⟨(some 5),.op (.fAddr 0 (.t 1)),none⟩,
    ⟨(some 6),.op (.load1 (.t 5)),none⟩,
    ⟨(some 7),.op (.bin .gtr (.t 6) (.c (.i .u8 2))),none⟩,
    ⟨(some 8),.op (.mov (.t 7)),none⟩,
    ⟨(some 9),.op (.fAddr 0 (.t 1)),(some (8,false))⟩,
    ⟨(some 10),.op (.load1 (.t 9)),(some (8,false))⟩,
    ⟨(some 11),.op (.bin .eql (.t 10) (.c (.i .u8 0))),(some (8,false))⟩,
    ⟨(some 12),.op (.mov (.t 11)),(some (8,false))⟩,
    ⟨(some 13),.op (.fAddr 1 (.t 1)),(some (12,true))⟩,
    ⟨(some 14),.op (.load1 (.t 13)),(some (12,true))⟩,
    ⟨(some 15),.op (.len false (.t 14)),(some (12,true))⟩,
    ⟨(some 16),.op (.bin .gtr (.t 15) (.c (.i .i64 0))),(some (12,true))⟩,
    ⟨(some 17),.op (.pick (.t 12) (.t 16) (.c (.b false))),(some (8,false))⟩,
    ⟨(some 18),.op (.pick (.t 8) (.c (.b true)) (.t 17)),none⟩])
  (.cond (.t 18) (.seq (.reg false [⟨(some 2),.op (.mov (.c (.b false))),none⟩])
  (.ret)) (.skip)))
  (.cut (ir_vestibuleref16_May_c2 f_vestibuleref09_Known)))⟩
set_option maxRecDepth 8000 in
theorem may16_c2 {g1:Nat} (h1:∀ s,Pure P g1 [.s s] (.b (knownM s))) (l:GList) (hl:l.calls.length ≤ 100000) (hR:Rng l.calls) {t':Tr AV} {h':Hp} (hw:Wk 0 t' h' (mkT [(1,.ptr 0 0),(2,.b false)]) (mkH 0 [.cells 0 true false (cList l)])) :
    S P 0 (ir_vestibuleref16_May_c2 g1) (endX [.tmp 2] fun v' h'=>Frz h' v' (.b (upFrom none l.calls))) t' h':=by
  refine S.weak hw (V_sound ?_)
  simp only [ir_vestibuleref16_May_c2,cList,argsT,H0,mkT,mkH,trL,List.length_cons,List.length_nil,Nat.reduceAdd,Nat.zero_add]
  simp only [↓vS,cvF_pc,vP,shb,shv,shvs,she_nil,she_cons,vC,vQ,not_false_eq_true,Nat.reduceEqDiff,↓reduceIte,eq_self,Nat.reduceAdd,Nat.reduceMul,Nat.reduceSub,Nat.reduceLeDiff,Nat.reduceLT,defd,cellsOf,wr,packR,Int.reduceLE,Int.reduceLT,Int.reduceEq,Int.cast_ofNat_Int,Int.reduceToNat]
  refine SL.loop (α:=Nat) (fun j=>[(1,.ptr 0 0),(2,.b false),(3,.i .i64 j)]) (fun _=>[.cells 0 true false (cList l)])
    (fun j=>j ≤ l.calls.length ∧ upFrom none l.calls = upFrom (if j = 0 then none else l.calls[j - 1]?) (l.calls.drop j)) (fun j=>l.calls.length - j) 0 [0] ?_ ?_ ?_ rfl ?_ ?_
  · simp [vW,bw_map,mapAt_map,mapClo_it,mapClo_nil,mapClo_cons,vP,vZ,Tr.get_set,rC_clos]
  · simp [vW,bw_map,mapAt_map,mapClo_it,mapClo_nil,mapClo_cons,vP,vZ,Tr.get_set,cList]
  · simp
  · exact ⟨Nat.zero_le _,rfl⟩
  rintro j ⟨hj,hI⟩ G ih
  simp only [argsT,H0,mkT,mkH,trL,List.length_cons,List.length_nil,Nat.reduceAdd,Nat.zero_add,cList]
  by_cases hlt:j < l.calls.length
  · have hx : l.calls[j]? = some l.calls[j]:=List.getElem?_eq_getElem hlt
    have g0:(rC l.calls)[j * 2]? = some (.s l.calls[j].name):=rC_get hx (i:=0) (by decide)
    have g1:(rC l.calls)[j * 2 + 1]? = some (.i .u32 l.calls[j].act):=rC_get hx (i:=1) (by decide)
    have hw:IntKind.wrap .i64 ((j:Int) + 1) = ((j + 1:Nat):Int):=by rw [wrap64 (by omega) (by omega)]; omega
    rw [List.drop_eq_getElem_cons hlt,upFrom] at hI
    obtain ⟨r0,r1⟩:=hR l.calls[j] (List.getElem_mem hlt)
    generalize hc0:l.calls[j] = c at hI hx g0 g1 r0 r1
    simp only [↓vS,cvF_pc,vP,shb,shv,shvs,she_nil,she_cons,vC,vQ,not_false_eq_true,Nat.reduceEqDiff,↓reduceIte,eq_self,Nat.reduceAdd,Nat.reduceMul,Nat.reduceSub,Nat.reduceLeDiff,Nat.reduceLT,defd,cellsOf,wr,packR,Int.reduceLE,Int.reduceLT,Int.reduceEq,Int.cast_ofNat_Int,Int.reduceToNat,hlt,g1]
    refine VD_pc ?_
    simp only [↓vS,cvF_pc,vP,shb,shv,shvs,she_nil,she_cons,vC,vQ,not_false_eq_true,Nat.reduceEqDiff,↓reduceIte,eq_self,Nat.reduceAdd,Nat.reduceMul,Nat.reduceSub,Nat.reduceLeDiff,Nat.reduceLT,defd,cellsOf,wr,packR,Int.reduceLE,Int.reduceLT,Int.reduceEq,Int.cast_ofNat_Int,Int.reduceToNat,hlt,g0]
    refine (h1 c.name).pc ?_
    cases hk:knownM c.name with
    | false =>
      have hw:upFrom none l.calls = false:=by rw [hI]; simp [okC,hk]
      simp only [↓vS,cvF_pc,vP,shb,shv,shvs,she_nil,she_cons,vC,vQ,not_false_eq_true,Nat.reduceEqDiff,↓reduceIte,eq_self,Nat.reduceAdd,Nat.reduceMul,Nat.reduceSub,Nat.reduceLeDiff,Nat.reduceLT,defd,cellsOf,wr,packR,Int.reduceLE,Int.reduceLT,Int.reduceEq,Int.cast_ofNat_Int,Int.reduceToNat]
      simp [vZ,hw]
    | true =>
      by_cases h0:j = 0
      · subst h0
        have hn:¬ (0:Int) < ((0:Nat):Int):=by decide
        have hw:IntKind.wrap .i64 (((0:Nat):Int) + 1) = ((1:Nat):Int):=by decide
        have hw':IntKind.wrap .i64 (0 + 1) = ((1:Nat):Int):=by decide
        have h65:(65536:Int) ≠ 0:=by decide
        by_cases e0:c.act = 0
        · have hok:okC c = true:=by simp [okC,hk,actM,e0]
          simp only [↓vS,cvF_pc,vP,shb,shv,shvs,she_nil,she_cons,vC,vQ,not_false_eq_true,Nat.reduceEqDiff,↓reduceIte,eq_self,Nat.reduceAdd,Nat.reduceMul,Nat.reduceSub,Nat.reduceLeDiff,Nat.reduceLT,defd,cellsOf,wr,packR,Int.reduceLE,Int.reduceLT,Int.reduceEq,Int.cast_ofNat_Int,Int.reduceToNat,hn,e0,hw]
          refine ih 1 ⟨by omega,?_⟩ (by omega) _ _ (Wk.mk _ _ [0] ?_ ?_ ?_ rfl)
          · rw [hI,hok]; simp [hx]
          · simp [vW,bw_map,mapAt_map,mapClo_it,mapClo_nil,mapClo_cons,vP,vZ,Tr.get_set,rC_clos]
            exact wrap64 (by decide) (by decide)
          · simp [vW,bw_map,mapAt_map,mapClo_it,mapClo_nil,mapClo_cons,vP,vZ,Tr.get_set,cList]
          · simp
        by_cases e1:c.act = 2147483648
        · have hok:okC c = true:=by simp [okC,hk,actM,e1]
          simp only [↓vS,cvF_pc,vP,shb,shv,shvs,she_nil,she_cons,vC,vQ,not_false_eq_true,Nat.reduceEqDiff,↓reduceIte,eq_self,Nat.reduceAdd,Nat.reduceMul,Nat.reduceSub,Nat.reduceLeDiff,Nat.reduceLT,defd,cellsOf,wr,packR,Int.reduceLE,Int.reduceLT,Int.reduceEq,Int.cast_ofNat_Int,Int.reduceToNat,hn,e0,e1,hw]
          refine ih 1 ⟨by omega,?_⟩ (by omega) _ _ (Wk.mk _ _ [0] ?_ ?_ ?_ rfl)
          · rw [hI,hok]; simp [hx]
          · simp [vW,bw_map,mapAt_map,mapClo_it,mapClo_nil,mapClo_cons,vP,vZ,Tr.get_set,rC_clos]
            exact wrap64 (by decide) (by decide)
          · simp [vW,bw_map,mapAt_map,mapClo_it,mapClo_nil,mapClo_cons,vP,vZ,Tr.get_set,cList]
          · simp
        by_cases e2:c.act.tdiv 65536 = 5
        · have hwq:IntKind.wrap .u32 (c.act.tdiv 65536) = 5:=by rw [e2]; decide
          by_cases e3:4095 < c.act.tmod 65536
          · have e3':¬ c.act.tmod 65536 ≤ 4095:=by omega
            have hwf:upFrom none l.calls = false:=by rw [hI]; simp [okC,actM_tdiv r0 r1,e0,e1,e2,e3']
            simp only [↓vS,cvF_pc,vP,shb,shv,shvs,she_nil,she_cons,vC,vQ,not_false_eq_true,Nat.reduceEqDiff,↓reduceIte,eq_self,Nat.reduceAdd,Nat.reduceMul,Nat.reduceSub,Nat.reduceLeDiff,Nat.reduceLT,defd,cellsOf,wr,packR,Int.reduceLE,Int.reduceLT,Int.reduceEq,Int.cast_ofNat_Int,Int.reduceToNat,hn,e0,e1,↓bin_quo h65,↓bin_rem h65,hwq,e3]
            simp [vZ,hwf]
          · have hok:okC c = true:=by simp [okC,hk,actM_tdiv r0 r1,e0,e1,e2,e3]; omega
            simp only [↓vS,cvF_pc,vP,shb,shv,shvs,she_nil,she_cons,vC,vQ,not_false_eq_true,Nat.reduceEqDiff,↓reduceIte,eq_self,Nat.reduceAdd,Nat.reduceMul,Nat.reduceSub,Nat.reduceLeDiff,Nat.reduceLT,defd,cellsOf,wr,packR,Int.reduceLE,Int.reduceLT,Int.reduceEq,Int.cast_ofNat_Int,Int.reduceToNat,hn,e0,e1,↓bin_quo h65,↓bin_rem h65,hwq,e3,hw]
            refine ih 1 ⟨by omega,?_⟩ (by omega) _ _ (Wk.mk _ _ [0] ?_ ?_ ?_ rfl)
            · rw [hI,hok]; simp [hx]
            · simp [vW,bw_map,mapAt_map,mapClo_it,mapClo_nil,mapClo_cons,vP,vZ,Tr.get_set,rC_clos]
              exact wrap64 (by decide) (by decide)
            · simp [vW,bw_map,mapAt_map,mapClo_it,mapClo_nil,mapClo_cons,vP,vZ,Tr.get_set,cList]
            · simp
        · have hwq:¬ IntKind.wrap .u32 (c.act.tdiv 65536) = 5:=by rw [wrapu32 (tdiv_rng r0 r1).1 (by have:=(tdiv_rng r0 r1).2; omega)]; exact e2
          have hwf:upFrom none l.calls = false:=by rw [hI]; simp [okC,actM_tdiv r0 r1,e0,e1,e2]
          simp only [↓vS,cvF_pc,vP,shb,shv,shvs,she_nil,she_cons,vC,vQ,not_false_eq_true,Nat.reduceEqDiff,↓reduceIte,eq_self,Nat.reduceAdd,Nat.reduceMul,Nat.reduceSub,Nat.reduceLeDiff,Nat.reduceLT,defd,cellsOf,wr,packR,Int.reduceLE,Int.reduceLT,Int.reduceEq,Int.cast_ofNat_Int,Int.reduceToNat,hn,e0,e1,↓bin_quo h65,hwq]
          simp [vZ,hwf]
      · have hp:(0:Int) < (j:Int):=by omega
        have hpl:j - 1 < l.calls.length:=by omega
        have hy:l.calls[j - 1]? = some l.calls[j - 1]:=List.getElem?_eq_getElem hpl
        have hw2:IntKind.wrap .i64 ((j:Int) - 1) = ((j - 1:Nat):Int):=by rw [wrap64 (by omega) (by omega)]; omega
        have g2:(rC l.calls)[(j - 1) * 2]? = some (.s l.calls[j - 1].name):=rC_get hy (i:=0) (by decide)
        rw [if_neg h0,hy] at hI
        cases hlt2:ltS l.calls[j - 1].name c.name with
        | false =>
          have hwf:upFrom none l.calls = false:=by rw [hI]; simp [hlt2]
          simp only [↓vS,cvF_pc,vP,shb,shv,shvs,she_nil,she_cons,vC,vQ,not_false_eq_true,Nat.reduceEqDiff,↓reduceIte,eq_self,Nat.reduceAdd,Nat.reduceMul,Nat.reduceSub,Nat.reduceLeDiff,Nat.reduceLT,defd,cellsOf,wr,packR,Int.reduceLE,Int.reduceLT,Int.reduceEq,Int.cast_ofNat_Int,Int.reduceToNat,hp,hw2,hpl,hlt,g0,g2,hlt2]
          simp [vZ,hwf]
        | true =>
          have h65:(65536:Int) ≠ 0:=by decide
          by_cases e0:c.act = 0
          · have hok:okC c = true:=by simp [okC,hk,actM,e0]
            simp only [↓vS,cvF_pc,vP,shb,shv,shvs,she_nil,she_cons,vC,vQ,not_false_eq_true,Nat.reduceEqDiff,↓reduceIte,eq_self,Nat.reduceAdd,Nat.reduceMul,Nat.reduceSub,Nat.reduceLeDiff,Nat.reduceLT,defd,cellsOf,wr,packR,Int.reduceLE,Int.reduceLT,Int.reduceEq,Int.cast_ofNat_Int,Int.reduceToNat,hp,hw2,hpl,hlt,g0,g2,hlt2,e0,hw]
            refine ih (j + 1) ⟨by omega,?_⟩ (by omega) _ _ (Wk.mk _ _ [0] ?_ ?_ ?_ rfl)
            · rw [hI,hok]; simp [hlt2,hx]
            · simp [vW,bw_map,mapAt_map,mapClo_it,mapClo_nil,mapClo_cons,vP,vZ,Tr.get_set,rC_clos]
            · simp [vW,bw_map,mapAt_map,mapClo_it,mapClo_nil,mapClo_cons,vP,vZ,Tr.get_set,cList]
            · simp
          by_cases e1:c.act = 2147483648
          · have hok:okC c = true:=by simp [okC,hk,actM,e1]
            simp only [↓vS,cvF_pc,vP,shb,shv,shvs,she_nil,she_cons,vC,vQ,not_false_eq_true,Nat.reduceEqDiff,↓reduceIte,eq_self,Nat.reduceAdd,Nat.reduceMul,Nat.reduceSub,Nat.reduceLeDiff,Nat.reduceLT,defd,cellsOf,wr,packR,Int.reduceLE,Int.reduceLT,Int.reduceEq,Int.cast_ofNat_Int,Int.reduceToNat,hp,hw2,hpl,hlt,g0,g2,hlt2,e0,e1,hw]
            refine ih (j + 1) ⟨by omega,?_⟩ (by omega) _ _ (Wk.mk _ _ [0] ?_ ?_ ?_ rfl)
            · rw [hI,hok]; simp [hlt2,hx]
            · simp [vW,bw_map,mapAt_map,mapClo_it,mapClo_nil,mapClo_cons,vP,vZ,Tr.get_set,rC_clos]
            · simp [vW,bw_map,mapAt_map,mapClo_it,mapClo_nil,mapClo_cons,vP,vZ,Tr.get_set,cList]
            · simp
          by_cases e2:c.act.tdiv 65536 = 5
          · have hwq:IntKind.wrap .u32 (c.act.tdiv 65536) = 5:=by rw [e2]; decide
            by_cases e3:4095 < c.act.tmod 65536
            · have e3':¬ c.act.tmod 65536 ≤ 4095:=by omega
              have hwf:upFrom none l.calls = false:=by rw [hI]; simp [okC,actM_tdiv r0 r1,e0,e1,e2,e3']
              simp only [↓vS,cvF_pc,vP,shb,shv,shvs,she_nil,she_cons,vC,vQ,not_false_eq_true,Nat.reduceEqDiff,↓reduceIte,eq_self,Nat.reduceAdd,Nat.reduceMul,Nat.reduceSub,Nat.reduceLeDiff,Nat.reduceLT,defd,cellsOf,wr,packR,Int.reduceLE,Int.reduceLT,Int.reduceEq,Int.cast_ofNat_Int,Int.reduceToNat,hp,hw2,hpl,hlt,g0,g2,hlt2,e0,e1,↓bin_quo h65,↓bin_rem h65,hwq,e3]
              simp [vZ,hwf]
            · have hok:okC c = true:=by simp [okC,hk,actM_tdiv r0 r1,e0,e1,e2,e3]; omega
              simp only [↓vS,cvF_pc,vP,shb,shv,shvs,she_nil,she_cons,vC,vQ,not_false_eq_true,Nat.reduceEqDiff,↓reduceIte,eq_self,Nat.reduceAdd,Nat.reduceMul,Nat.reduceSub,Nat.reduceLeDiff,Nat.reduceLT,defd,cellsOf,wr,packR,Int.reduceLE,Int.reduceLT,Int.reduceEq,Int.cast_ofNat_Int,Int.reduceToNat,hp,hw2,hpl,hlt,g0,g2,hlt2,e0,e1,↓bin_quo h65,↓bin_rem h65,hwq,e3,hw]
              refine ih (j + 1) ⟨by omega,?_⟩ (by omega) _ _ (Wk.mk _ _ [0] ?_ ?_ ?_ rfl)
              · rw [hI,hok]; simp [hlt2,hx]
              · simp [vW,bw_map,mapAt_map,mapClo_it,mapClo_nil,mapClo_cons,vP,vZ,Tr.get_set,rC_clos]
              · simp [vW,bw_map,mapAt_map,mapClo_it,mapClo_nil,mapClo_cons,vP,vZ,Tr.get_set,cList]
              · simp
          · have hwq:¬ IntKind.wrap .u32 (c.act.tdiv 65536) = 5:=by rw [wrapu32 (tdiv_rng r0 r1).1 (by have:=(tdiv_rng r0 r1).2; omega)]; exact e2
            have hwf:upFrom none l.calls = false:=by rw [hI]; simp [okC,actM_tdiv r0 r1,e0,e1,e2]
            simp only [↓vS,cvF_pc,vP,shb,shv,shvs,she_nil,she_cons,vC,vQ,not_false_eq_true,Nat.reduceEqDiff,↓reduceIte,eq_self,Nat.reduceAdd,Nat.reduceMul,Nat.reduceSub,Nat.reduceLeDiff,Nat.reduceLT,defd,cellsOf,wr,packR,Int.reduceLE,Int.reduceLT,Int.reduceEq,Int.cast_ofNat_Int,Int.reduceToNat,hp,hw2,hpl,hlt,g0,g2,hlt2,e0,e1,↓bin_quo h65,hwq]
            simp [vZ,hwf]
  · rw [List.drop_of_length_le (by omega),upFrom] at hI
    simp only [↓vS,cvF_pc,vP,shb,shv,shvs,she_nil,she_cons,vC,vQ,not_false_eq_true,Nat.reduceEqDiff,↓reduceIte,eq_self,Nat.reduceAdd,Nat.reduceMul,Nat.reduceSub,Nat.reduceLeDiff,Nat.reduceLT,defd,cellsOf,wr,packR,Int.reduceLE,Int.reduceLT,Int.reduceEq,Int.cast_ofNat_Int,Int.reduceToNat,hlt]
    simp [vZ,hI]
theorem may16 {g1:Nat} (hc:chkFn P f (ir_vestibuleref16_May g1) = true) (h1:∀ s,Pure P g1 [.s s] (.b (knownM s))):cMayR P f:=by
  intro l hl hR
  refine Pure.mk hc rfl ?_
  simp only [ir_vestibuleref16_May,cList,argsT,H0,mkT,mkH,trL,List.length_cons,List.length_nil,Nat.reduceAdd,Nat.zero_add]
  by_cases m1:2 < l.mode
  · have hw:mayM l = false:=by simp [mayM]; omega
    simp only [↓vS,cvF_pc,vP,shb,shv,shvs,she_nil,she_cons,vC,vQ,not_false_eq_true,Nat.reduceEqDiff,↓reduceIte,eq_self,Nat.reduceAdd,Nat.reduceMul,Nat.reduceSub,Nat.reduceLeDiff,Nat.reduceLT,defd,cellsOf,wr,packR,Int.reduceLE,Int.reduceLT,Int.reduceEq,Int.cast_ofNat_Int,Int.reduceToNat,m1]
    simp [vZ,hw]
  have tail:(l.mode ≠ 0 ∨ l.calls = []) → mayM l = upFrom none l.calls:=fun h=>by
    have:(decide (l.mode ≤ 2) && (decide (l.mode ≠ 0) || decide (l.calls = []))) = true:=by
      simp only [Bool.and_eq_true,Bool.or_eq_true,decide_eq_true_eq]; exact ⟨by omega,h⟩
    unfold mayM; rw [this]; rfl
  by_cases m2:l.mode = 0
  · by_cases m3:(0:Int) < l.calls.length
    · have hne:l.calls ≠ []:=by intro h; rw [h] at m3; simp at m3
      have hw:mayM l = false:=by simp [mayM,m2,hne]
      simp only [↓vS,cvF_pc,vP,shb,shv,shvs,she_nil,she_cons,vC,vQ,not_false_eq_true,Nat.reduceEqDiff,↓reduceIte,eq_self,Nat.reduceAdd,Nat.reduceMul,Nat.reduceSub,Nat.reduceLeDiff,Nat.reduceLT,defd,cellsOf,wr,packR,Int.reduceLE,Int.reduceLT,Int.reduceEq,Int.cast_ofNat_Int,Int.reduceToNat,m1,m2,m3]
      simp [vZ,hw]
    · have hz:l.calls = []:=List.eq_nil_of_length_eq_zero (by omega)
      rw [tail (.inr hz)]
      simp only [↓vS,cvF_pc,vP,shb,shv,shvs,she_nil,she_cons,vC,vQ,not_false_eq_true,Nat.reduceEqDiff,↓reduceIte,eq_self,Nat.reduceAdd,Nat.reduceMul,Nat.reduceSub,Nat.reduceLeDiff,Nat.reduceLT,defd,cellsOf,wr,packR,Int.reduceLE,Int.reduceLT,Int.reduceEq,Int.cast_ofNat_Int,Int.reduceToNat,m1,m2,m3]
      refine may16_c2 h1 l hl hR (Wk.mk _ _ [0] ?_ ?_ ?_ rfl)
      · simp [vW,bw_map,mapAt_map,mapClo_it,mapClo_nil,mapClo_cons,vP,vZ,Tr.get_set]
      · simp [vW,bw_map,mapAt_map,mapClo_it,mapClo_nil,mapClo_cons,vP,vZ,Tr.get_set,cList,m2]
      · simp
  · rw [tail (.inl m2)]
    simp only [↓vS,cvF_pc,vP,shb,shv,shvs,she_nil,she_cons,vC,vQ,not_false_eq_true,Nat.reduceEqDiff,↓reduceIte,eq_self,Nat.reduceAdd,Nat.reduceMul,Nat.reduceSub,Nat.reduceLeDiff,Nat.reduceLT,defd,cellsOf,wr,packR,Int.reduceLE,Int.reduceLT,Int.reduceEq,Int.cast_ofNat_Int,Int.reduceToNat,m1,m2]
    refine may16_c2 h1 l hl hR (Wk.mk _ _ [0] ?_ ?_ ?_ rfl)
    · simp [vW,bw_map,mapAt_map,mapClo_it,mapClo_nil,mapClo_cons,vP,vZ,Tr.get_set]
    · simp [vW,bw_map,mapAt_map,mapClo_it,mapClo_nil,mapClo_cons,vP,vZ,Tr.get_set,cList]
    · simp
end Go.Kc
end
section
/- What the document makes of lists: Find, take, Take, Put, Same. Condition: the functions' texts are these. -/
namespace Go.Kc
variable {P:Program} {f:Nat}
def ir_vestibuleref16_Same:IFn:=⟨[.tmp 4],
  .seq (.reg false [⟨(some 2),.op (.box (.t 0)),none⟩,
    ⟨(some 3),.op (.box (.t 1)),none⟩,
    ⟨(some 4),.op (.mov (.c (.b false))),none⟩])
  (.seq (.seq (.reg false [⟨(some 6),.op (.fAddr 0 (.t 2)),none⟩,
    ⟨(some 7),.op (.load1 (.t 6)),none⟩,
    ⟨(some 8),.op (.fAddr 0 (.t 3)),none⟩,
    ⟨(some 9),.op (.load1 (.t 8)),none⟩,
    ⟨(some 10),.op (.bin .neq (.t 7) (.t 9)),none⟩,
    ⟨(some 11),.op (.mov (.t 10)),none⟩,
    ⟨(some 12),.op (.fAddr 1 (.t 2)),(some (11,false))⟩,
    ⟨(some 13),.op (.load1 (.t 12)),(some (11,false))⟩,
    ⟨(some 14),.op (.len false (.t 13)),(some (11,false))⟩,
    ⟨(some 15),.op (.fAddr 1 (.t 3)),(some (11,false))⟩,
    ⟨(some 16),.op (.load1 (.t 15)),(some (11,false))⟩,
    ⟨(some 17),.op (.len false (.t 16)),(some (11,false))⟩,
    ⟨(some 18),.op (.bin .neq (.t 14) (.t 17)),(some (11,false))⟩,
    ⟨(some 19),.op (.pick (.t 11) (.c (.b true)) (.t 18)),none⟩])
  (.cond (.t 19) (.seq (.reg false [⟨(some 4),.op (.mov (.c (.b false))),none⟩])
  (.ret)) (.skip)))
  (.seq (.seq (.reg false [⟨(some 5),.op (.mov (.c (.i .i64 0))),none⟩])
  (.blk 0 (.loop (.seq (.seq (.reg false [⟨(some 20),.op (.mov (.t 5)),none⟩,
    ⟨(some 21),.op (.fAddr 1 (.t 2)),none⟩,
    ⟨(some 22),.op (.load1 (.t 21)),none⟩,
    ⟨(some 23),.op (.len false (.t 22)),none⟩,
    ⟨(some 24),.op (.bin .lss (.t 20) (.t 23)),none⟩])
  (.cond (.t 24) (.skip) (.exit 0)))
  (.seq (.blk 1 (.seq (.reg true [⟨(some 27),.op (.fAddr 1 (.t 2)),none⟩,
    ⟨(some 28),.op (.load1 (.t 27)),none⟩,
    ⟨(some 29),.op (.mov (.t 5)),none⟩,
    ⟨(some 30),.op (.iAddrS 2 (.t 28) (.t 29)),none⟩,
    ⟨(some 31),.op (.loadN 2 (.t 30)),none⟩,
    ⟨(some 32),.op (.fAddr 1 (.t 3)),none⟩,
    ⟨(some 33),.op (.load1 (.t 32)),none⟩,
    ⟨(some 34),.op (.mov (.t 5)),none⟩,
    ⟨(some 35),.op (.iAddrS 2 (.t 33) (.t 34)),none⟩,
    ⟨(some 36),.op (.loadN 2 (.t 35)),none⟩,
    ⟨(some 37),.op (.eqA true [.s,.i] (.t 31) (.t 36)),none⟩])
  (.cond (.t 37) (.seq (.reg false [⟨(some 4),.op (.mov (.c (.b false))),none⟩])
  (.ret)) (.skip))))
  (.reg false [⟨(some 25),.op (.mov (.t 5)),none⟩,
    ⟨(some 26),.op (.bin .add (.t 25) (.c (.i .i64 1))),none⟩,
    ⟨(some 5),.op (.mov (.t 26)),none⟩]))))))
  (.seq (.reg false [⟨(some 4),.op (.mov (.c (.b true))),none⟩])
  (.ret))))⟩
theorem same16 (hc:chkFn P f ir_vestibuleref16_Same = true) (l:GList) (hl:l.calls.length ≤ 100000):Pure P f [.agg (cList l),.agg (cList l)] (.b true):=by
  refine Pure.mk hc rfl ?_
  simp only [ir_vestibuleref16_Same,cList,argsT,H0,mkT,mkH,trL,List.length_cons,List.length_nil,Nat.reduceAdd,Nat.zero_add]
  simp only [↓vS,cvF_pc,vP,shb,shv,shvs,she_nil,she_cons,vC,vQ,not_false_eq_true,Nat.reduceEqDiff,↓reduceIte,eq_self,Nat.reduceAdd,Nat.reduceMul,Nat.reduceSub,Nat.reduceLeDiff,Nat.reduceLT,defd,cellsOf,wr,packR,Int.reduceLE,Int.reduceLT,Int.reduceEq,Int.cast_ofNat_Int,Int.reduceToNat]
  refine SL.loop (α:=Nat) (fun j=>[(2,.ptr 0 0),(3,.ptr 1 0),(4,.b false),(5,.i .i64 j)]) (fun _=>[.cells 0 true false (cList l),.cells 0 true false (cList l)]) (fun _=>True) (fun j=>l.calls.length - j) 0 [0,1] ?_ ?_ ?_ rfl ?_ ?_
  · simp [vW,bw_map,mapAt_map,mapClo_it,mapClo_nil,mapClo_cons,vP,vZ,Tr.get_set]
  · simp [vW,bw_map,mapAt_map,mapClo_it,mapClo_nil,mapClo_cons,vP,vZ,Tr.get_set,cList]
  · simp
  · trivial
  rintro j - G ih
  simp only [argsT,H0,mkT,mkH,trL,List.length_cons,List.length_nil,Nat.reduceAdd,Nat.zero_add,cList]
  by_cases hlt:j < l.calls.length
  · have hx:l.calls[j]? = some l.calls[j]:=List.getElem?_eq_getElem hlt
    have he:=rC_elem hx
    have hb:=rC_bound hlt
    have hw:IntKind.wrap .i64 ((j:Int) + 1) = ((j + 1:Nat):Int):=by rw [wrap64 (by omega) (by omega)]; omega
    simp only [↓vS,cvF_pc,vP,shb,shv,shvs,she_nil,she_cons,vC,vQ,not_false_eq_true,Nat.reduceEqDiff,↓reduceIte,eq_self,Nat.reduceAdd,Nat.reduceMul,Nat.reduceSub,Nat.reduceLeDiff,Nat.reduceLT,defd,cellsOf,wr,packR,Int.reduceLE,Int.reduceLT,Int.reduceEq,Int.cast_ofNat_Int,Int.reduceToNat,hlt]
    refine VD_pc ?_
    simp (decide:=true) only [↓vS,cvF_pc,vP,shb,shv,shvs,she_nil,she_cons,vC,vQ,not_false_eq_true,Nat.reduceEqDiff,↓reduceIte,eq_self,Nat.reduceAdd,Nat.reduceMul,Nat.reduceSub,Nat.reduceLeDiff,Nat.reduceLT,defd,cellsOf,wr,packR,Int.reduceLE,Int.reduceLT,Int.reduceEq,Int.cast_ofNat_Int,Int.reduceToNat,hlt,hb,he,cCall,hw,beq_self_eq_true]
    refine ih (j + 1) trivial (by omega) _ _ (Wk.mk _ _ [0,1] ?_ ?_ ?_ rfl)
    · simp [vW,bw_map,mapAt_map,mapClo_it,mapClo_nil,mapClo_cons,vP,vZ,Tr.get_set]
    · simp [vW,bw_map,mapAt_map,mapClo_it,mapClo_nil,mapClo_cons,vP,vZ,Tr.get_set,cList]
    · simp
  · simp only [↓vS,cvF_pc,vP,shb,shv,shvs,she_nil,she_cons,vC,vQ,not_false_eq_true,Nat.reduceEqDiff,↓reduceIte,eq_self,Nat.reduceAdd,Nat.reduceMul,Nat.reduceSub,Nat.reduceLeDiff,Nat.reduceLT,defd,cellsOf,wr,packR,Int.reduceLE,Int.reduceLT,Int.reduceEq,Int.cast_ofNat_Int,Int.reduceToNat,hlt,vZ]
def ir_vestibuleref16_take:IFn:=⟨[.cell 4 2 true],
  .seq (.reg false [⟨(some 2),.op (.box (.t 0)),none⟩,
    ⟨(some 4),.op (.alloc [.i .u8 0,.nils]),none⟩])
  (.seq (.reg false [⟨(some 7),.op (.fAddr 0 (.t 2)),none⟩,
    ⟨(some 8),.op (.load1 (.t 7)),none⟩,
    ⟨(some 9),.op (.build [.i .u8 0,.nils] [(0,1,(.t 8))]),none⟩,
    ⟨(some 5),.op (.alloc [.i .u8 0,.nils]),none⟩,
    ⟨none,.op (.store 2 (.t 5) (.t 9)),none⟩])
  (.seq (.seq (.reg false [⟨(some 6),.op (.mov (.c (.i .i64 0))),none⟩])
  (.blk 0 (.loop (.seq (.seq (.reg false [⟨(some 10),.op (.mov (.t 6)),none⟩,
    ⟨(some 11),.op (.fAddr 1 (.t 2)),none⟩,
    ⟨(some 12),.op (.load1 (.t 11)),none⟩,
    ⟨(some 13),.op (.len false (.t 12)),none⟩,
    ⟨(some 14),.op (.bin .lss (.t 10) (.t 13)),none⟩])
  (.cond (.t 14) (.skip) (.exit 0)))
  (.seq (.blk 1 (.seq (.reg false [⟨(some 17),.op (.fAddr 1 (.t 2)),none⟩,
    ⟨(some 18),.op (.load1 (.t 17)),none⟩,
    ⟨(some 19),.op (.mov (.t 6)),none⟩,
    ⟨(some 20),.op (.iAddrS 2 (.t 18) (.t 19)),none⟩,
    ⟨(some 21),.op (.fAddr 0 (.t 20)),none⟩,
    ⟨(some 22),.op (.load1 (.t 21)),none⟩,
    ⟨(some 23),.op (.mov (.t 1)),none⟩,
    ⟨(some 24),.op (.bin .neq (.t 22) (.t 23)),none⟩])
  (.cond (.t 24) (.reg true [⟨(some 25),.op (.fAddr 1 (.t 5)),none⟩,
    ⟨(some 26),.op (.load1 (.t 25)),none⟩,
    ⟨(some 27),.op (.fAddr 1 (.t 2)),none⟩,
    ⟨(some 28),.op (.load1 (.t 27)),none⟩,
    ⟨(some 29),.op (.mov (.t 6)),none⟩,
    ⟨(some 30),.op (.iAddrS 2 (.t 28) (.t 29)),none⟩,
    ⟨(some 31),.op (.loadN 2 (.t 30)),none⟩,
    ⟨(some 32),.op (.buildS 1 [.s [],.i .u32 0] [(0,2,(.t 31))]),none⟩,
    ⟨(some 33),.op (.app 2 24 true (.t 26) (.t 32)),none⟩,
    ⟨(some 34),.op (.fAddr 1 (.t 5)),none⟩,
    ⟨none,.op (.store 1 (.t 34) (.t 33)),none⟩]) (.skip))))
  (.reg false [⟨(some 15),.op (.mov (.t 6)),none⟩,
    ⟨(some 16),.op (.bin .add (.t 15) (.c (.i .i64 1))),none⟩,
    ⟨(some 6),.op (.mov (.t 16)),none⟩]))))))
  (.seq (.reg false [⟨(some 35),.op (.loadN 2 (.t 5)),none⟩,
    ⟨none,.op (.store 2 (.t 4) (.t 35)),none⟩])
  (.ret))))⟩
def wo (l:List GCall) (s:List UInt8):List GCall:=l.filter fun c=>!decide (c.name = s)
theorem wo_next {l:List GCall} {s:List UInt8} {j:Nat} {c:GCall} (h:l[j]? = some c):wo (l.take (j + 1)) s = wo (l.take j) s ++ (if c.name = s then [] else [c]):=by
  unfold wo
  rw [List.take_add_one,h,List.filter_append]
  by_cases hc:c.name = s <;> simp [hc]
def cTake0 (P:Program) (f:Nat):Prop:=∀ (l:GList) (s:List UInt8),l.calls.length ≤ 100000 → Own P f [.agg (cList l),.s s] (.agg [.i .u8 l.mode,.own 0 (wo l.calls s).length]) [.cells 2 true true (rC (wo l.calls s))]
theorem take0 (hc:chkFn P f ir_vestibuleref16_take = true):cTake0 P f:=by
  intro l s hl
  refine Own.mk hc rfl ?_
  simp only [ir_vestibuleref16_take,cList,argsT,H0,mkT,mkH,trL,List.length_cons,List.length_nil,Nat.reduceAdd,Nat.zero_add]
  simp only [↓vS,cvF_pc,vP,shb,shv,shvs,she_nil,she_cons,vC,vQ,not_false_eq_true,Nat.reduceEqDiff,↓reduceIte,eq_self,Nat.reduceAdd,Nat.reduceMul,Nat.reduceSub,Nat.reduceLeDiff,Nat.reduceLT,defd,cellsOf,wr,packR,Int.reduceLE,Int.reduceLT,Int.reduceEq,Int.cast_ofNat_Int,Int.reduceToNat]
  refine SL.loop (α:=Nat) (fun j=>[(1,.s s),(2,.ptr 0 0),(4,.ptr 1 0),(5,.ptr 2 0),(6,.i .i64 j)]) (fun j=>[.cells 0 true false (cList l),.cells 0 true false [.i .u8 0,.nils],.cells 0 true false [.i .u8 l.mode,.own 3 (wo (l.calls.take j) s).length],.cells 2 true true (rC (wo (l.calls.take j) s))])
    (fun j=>j ≤ l.calls.length) (fun j=>l.calls.length - j) 0 [0,1,2,3] ?_ ?_ ?_ rfl ?_ ?_
  · simp [vW,bw_map,mapAt_map,mapClo_it,mapClo_nil,mapClo_cons,vP,vZ,Tr.get_set]
  · simp [vW,bw_map,mapAt_map,mapClo_it,mapClo_nil,mapClo_cons,vP,vZ,Tr.get_set,cList,wo,rC_nil]
  · simp
  · exact Nat.zero_le _
  rintro j hj G ih
  have hlen:(wo (l.calls.take j) s).length ≤ l.calls.length:=by
    have:=List.length_filter_le (fun c:GCall=>!decide (c.name = s)) (l.calls.take j)
    rw [List.length_take] at this; unfold wo; omega
  simp only [argsT,H0,mkT,mkH,trL,List.length_cons,List.length_nil,Nat.reduceAdd,Nat.zero_add,cList]
  by_cases hlt:j < l.calls.length
  · have hx:l.calls[j]? = some l.calls[j]:=List.getElem?_eq_getElem hlt
    have he:=rC_elem hx
    have hb:=rC_bound hlt
    have g0:(rC l.calls)[j * 2]? = some (.s l.calls[j].name):=rC_get hx (i:=0) (by decide)
    have hw:IntKind.wrap .i64 ((j:Int) + 1) = ((j + 1:Nat):Int):=by rw [wrap64 (by omega) (by omega)]; omega
    have hnx:=wo_next (s:=s) hx
    have ih2:=ih (j + 1)
    rw [hnx] at ih2
    generalize l.calls[j] = c at hx he g0 hnx ih2
    generalize wo (l.calls.take j) s = A at hlen hnx ih2
    by_cases hc:c.name = s
    · rw [if_pos hc,List.append_nil] at ih2
      simp only [↓vS,cvF_pc,vP,shb,shv,shvs,she_nil,she_cons,vC,vQ,not_false_eq_true,Nat.reduceEqDiff,↓reduceIte,eq_self,Nat.reduceAdd,Nat.reduceMul,Nat.reduceSub,Nat.reduceLeDiff,Nat.reduceLT,defd,cellsOf,wr,packR,Int.reduceLE,Int.reduceLT,Int.reduceEq,Int.cast_ofNat_Int,Int.reduceToNat,hlt,g0,hc,hw]
      refine ih2 (by omega) (by omega) _ _ (Wk.mk _ _ [0,1,2,3] ?_ ?_ ?_ rfl)
      · simp [vW,bw_map,mapAt_map,mapClo_it,mapClo_nil,mapClo_cons,vP,vZ,Tr.get_set]
      · simp [vW,bw_map,mapAt_map,mapClo_it,mapClo_nil,mapClo_cons,vP,vZ,Tr.get_set,cList,nvs_self,rC_clos]
      · simp
    · rw [if_neg hc] at ih2
      have hb2:j * 2 + 2 ≤ l.calls.length * 2:=by omega
      have hr1:A.length + 1 ≤ roomB:=by simp only [roomB]; omega
      have hr2:(A.length + 1) * 24 ≤ roomB:=by simp only [roomB]; omega
      have hap:rC A ++ [AV.s c.name,.i .u32 c.act] = rC (A ++ [c]):=by rw [← rC_app]; rfl
      simp only [↓vS,cvF_pc,vP,shb,shv,shvs,she_nil,she_cons,vC,vQ,not_false_eq_true,Nat.reduceEqDiff,↓reduceIte,eq_self,Nat.reduceAdd,Nat.reduceMul,Nat.reduceSub,Nat.reduceLeDiff,Nat.reduceLT,defd,cellsOf,wr,packR,Int.reduceLE,Int.reduceLT,Int.reduceEq,Int.cast_ofNat_Int,Int.reduceToNat,hlt,g0,hc]
      refine VD_pc ?_
      simp (decide:=true) only [↓vS,cvF_pc,vP,shb,shv,shvs,she_nil,she_cons,vC,vQ,not_false_eq_true,Nat.reduceEqDiff,↓reduceIte,eq_self,Nat.reduceAdd,Nat.reduceMul,Nat.reduceSub,Nat.reduceLeDiff,Nat.reduceLT,defd,cellsOf,wr,packR,Int.reduceLE,Int.reduceLT,Int.reduceEq,Int.cast_ofNat_Int,Int.reduceToNat,hlt,hb2,he,cCall,hr1,hr2,rC_len,hap,hw]
      refine ih2 (by omega) (by omega) _ _ (Wk.mk _ _ [0,1,2,5] ?_ ?_ ?_ rfl)
      · simp [vW,bw_map,mapAt_map,mapClo_it,mapClo_nil,mapClo_cons,vP,vZ,Tr.get_set]
      · simp [vW,bw_map,mapAt_map,mapClo_it,mapClo_nil,mapClo_cons,vP,vZ,Tr.get_set,cList,nvs_self,rC_clos]
      · simp
  · have hjl:l.calls.take j = l.calls:=List.take_of_length_le (by omega)
    rw [hjl]
    simp only [↓vS,cvF_pc,vP,shb,shv,shvs,she_nil,she_cons,vC,vQ,not_false_eq_true,Nat.reduceEqDiff,↓reduceIte,eq_self,Nat.reduceAdd,Nat.reduceMul,Nat.reduceSub,Nat.reduceLeDiff,Nat.reduceLT,defd,cellsOf,wr,packR,Int.reduceLE,Int.reduceLT,Int.reduceEq,Int.cast_ofNat_Int,Int.reduceToNat,hlt]
    intro _
    refine ⟨[3],?_⟩
    simp [vW,bw_map,mapAt_map,mapClo_it,mapClo_nil,mapClo_cons,vP,vZ,Tr.get_set,nvs_self,rC_clos]
def cPutR (P:Program) (f:Nat):Prop:=∀ (l:GList) (s:List UInt8) (n:Int),l.calls.length ≤ 100000 → Rng l.calls → Pure P f [.agg (cList l),.s s,.i .u32 n] (.agg (cList (putM l s n)))
theorem take0_pure (h:cTake0 P f) (l:GList) (s:List UInt8) (hl:l.calls.length ≤ 100000):Pure P f [.agg (cList l),.s s] (.agg (cList ⟨l.mode,wo l.calls s⟩)):=by
  refine (h l s hl).pure rfl ?_
  simp only [H0,pushs_cons,pushs_nil,push_mk,shb,shv,shvs,she_nil,she_cons,List.map_cons,List.map_nil,up_mk,down_mk,Nat.reduceAdd,Nat.zero_add]
  simp [vZ,vP,Tr.get_set,cList,frzs_self rC_clos,shvs_clo rC_clos,shvs,shv]
  intro h0; rw [h0]; rfl
def ir_vestibuleref16_Put_c4 (f_vestibuleref16_May f_vestibuleref16_take:Nat):ICode:=.seq (.seq (.reg false [⟨(some 24),.op (.fAddr 1 (.t 7)),none⟩,
    ⟨(some 25),.op (.load1 (.t 24)),none⟩,
    ⟨(some 26),.op (.len false (.t 25)),none⟩,
    ⟨(some 27),.op (.bin .sub (.t 26) (.c (.i .i64 1))),none⟩,
    ⟨(some 8),.op (.mov (.t 27)),none⟩])
  (.blk 0 (.loop (.seq (.seq (.reg true [⟨(some 28),.op (.mov (.t 8)),none⟩,
    ⟨(some 29),.op (.bin .gtr (.t 28) (.c (.i .i64 0))),none⟩,
    ⟨(some 30),.op (.mov (.t 29)),none⟩,
    ⟨(some 31),.op (.fAddr 1 (.t 7)),(some (30,true))⟩,
    ⟨(some 32),.op (.load1 (.t 31)),(some (30,true))⟩,
    ⟨(some 33),.op (.mov (.t 8)),(some (30,true))⟩,
    ⟨(some 34),.op (.iAddrS 2 (.t 32) (.t 33)),(some (30,true))⟩,
    ⟨(some 35),.op (.fAddr 0 (.t 34)),(some (30,true))⟩,
    ⟨(some 36),.op (.load1 (.t 35)),(some (30,true))⟩,
    ⟨(some 37),.op (.fAddr 1 (.t 7)),(some (30,true))⟩,
    ⟨(some 38),.op (.load1 (.t 37)),(some (30,true))⟩,
    ⟨(some 39),.op (.mov (.t 8)),(some (30,true))⟩,
    ⟨(some 40),.op (.bin .sub (.t 39) (.c (.i .i64 1))),(some (30,true))⟩,
    ⟨(some 41),.op (.iAddrS 2 (.t 38) (.t 40)),(some (30,true))⟩,
    ⟨(some 42),.op (.fAddr 0 (.t 41)),(some (30,true))⟩,
    ⟨(some 43),.op (.load1 (.t 42)),(some (30,true))⟩,
    ⟨(some 44),.op (.bin .lss (.t 36) (.t 43)),(some (30,true))⟩,
    ⟨(some 45),.op (.pick (.t 30) (.t 44) (.c (.b false))),none⟩])
  (.cond (.t 45) (.skip) (.exit 0)))
  (.seq (.blk 1 (.reg true [⟨(some 48),.op (.fAddr 1 (.t 7)),none⟩,
    ⟨(some 49),.op (.load1 (.t 48)),none⟩,
    ⟨(some 50),.op (.mov (.t 8)),none⟩,
    ⟨(some 51),.op (.fAddr 1 (.t 7)),none⟩,
    ⟨(some 52),.op (.load1 (.t 51)),none⟩,
    ⟨(some 53),.op (.mov (.t 8)),none⟩,
    ⟨(some 54),.op (.bin .sub (.t 53) (.c (.i .i64 1))),none⟩,
    ⟨(some 55),.op (.fAddr 1 (.t 7)),none⟩,
    ⟨(some 56),.op (.load1 (.t 55)),none⟩,
    ⟨(some 57),.op (.mov (.t 8)),none⟩,
    ⟨(some 58),.op (.bin .sub (.t 57) (.c (.i .i64 1))),none⟩,
    ⟨(some 59),.op (.iAddrS 2 (.t 56) (.t 58)),none⟩,
    ⟨(some 60),.op (.loadN 2 (.t 59)),none⟩,
    ⟨(some 61),.op (.fAddr 1 (.t 7)),none⟩,
    ⟨(some 62),.op (.load1 (.t 61)),none⟩,
    ⟨(some 63),.op (.mov (.t 8)),none⟩,
    ⟨(some 64),.op (.iAddrS 2 (.t 62) (.t 63)),none⟩,
    ⟨(some 65),.op (.loadN 2 (.t 64)),none⟩,
    ⟨(some 66),.op (.iAddrS 2 (.t 49) (.t 50)),none⟩,
    ⟨none,.op (.storeD 2 (.t 66) (.t 60) [51]),none⟩,
    ⟨(some 67),.op (.iAddrS 2 (.t 52) (.t 54)),none⟩,
    ⟨none,.op (.store 2 (.t 67) (.t 65)),none⟩]))
  (.reg false [⟨(some 46),.op (.mov (.t 8)),none⟩,
    ⟨(some 47),.op (.bin .sub (.t 46) (.c (.i .i64 1))),none⟩,
    ⟨(some 8),.op (.mov (.t 47)),none⟩]))))))
  (.seq (.reg false [⟨(some 68),.op (.loadN 2 (.t 7)),none⟩,
    ⟨none,.op (.store 2 (.t 6) (.t 68)),none⟩])
  (.ret))
def ir_vestibuleref16_Put (f_vestibuleref16_May f_vestibuleref16_take:Nat):IFn:=⟨[.cell 6 2 true],
  .seq (.reg false [⟨(some 3),.op (.box (.t 0)),none⟩,
    ⟨(some 6),.op (.alloc [.i .u8 0,.nils]),none⟩])
  (.seq (.seq (.reg false [⟨(some 9),.op (.loadN 2 (.t 3)),none⟩,
    ⟨(some 10),.callF f_vestibuleref16_May [(.t 9)],none⟩,
    ⟨(some 11),.op (.un .not (.t 10)),none⟩])
  (.cond (.t 11) (.seq (.reg false [⟨(some 12),.op (.loadN 2 (.t 3)),none⟩,
    ⟨none,.op (.store 2 (.t 6) (.t 12)),none⟩])
  (.ret)) (.skip)))
  (.seq (.reg false [⟨(some 13),.op (.loadN 2 (.t 3)),none⟩,
    ⟨(some 14),.op (.mov (.t 1)),none⟩,
    ⟨(some 15),.callF f_vestibuleref16_take [(.t 13),(.t 14)],none⟩,
    ⟨(some 7),.op (.alloc [.i .u8 0,.nils]),none⟩,
    ⟨none,.op (.store 2 (.t 7) (.t 15)),none⟩])
  (.seq (.reg false [⟨(some 16),.op (.fAddr 1 (.t 7)),none⟩,
    ⟨(some 17),.op (.load1 (.t 16)),none⟩,
    ⟨(some 18),.op (.mov (.t 1)),none⟩,
    ⟨(some 19),.op (.mov (.t 2)),none⟩,
    ⟨(some 20),.op (.build [.s [],.i .u32 0] [(0,1,(.t 18)),(1,1,(.t 19))]),none⟩,
    ⟨(some 21),.op (.buildS 1 [.s [],.i .u32 0] [(0,2,(.t 20))]),none⟩,
    ⟨(some 22),.op (.app 2 24 true (.t 17) (.t 21)),none⟩,
    ⟨(some 23),.op (.fAddr 1 (.t 7)),none⟩,
    ⟨none,.op (.store 1 (.t 23) (.t 22)),none⟩])
  (.cut (ir_vestibuleref16_Put_c4 f_vestibuleref16_May f_vestibuleref16_take)))))⟩
theorem putM_sort {l:GList} (hM:mayM l = true) (s:List UInt8) (n:Int) {k:Nat} (h1:∀ c ∈ (wo l.calls s).take k,ltS c.name s = true) (h2:∀ c ∈ (wo l.calls s).drop k,ltS c.name s = false) :
    putM l s n = ⟨l.mode,(wo l.calls s).take k ++ ⟨s,n⟩ :: (wo l.calls s).drop k⟩:=by
  have hu:=((mayM_iff l).1 hM).2.2
  have e:putM l s n = ⟨l.mode,putL l.calls s n⟩:=if_pos hM
  obtain ⟨f1,f2⟩:=filter_cut (fun c=>ltS c.name s) (wo l.calls s) k h1 h2
  have e1:l.calls.filter (fun c=>ltS c.name s) = (wo l.calls s).take k:=by
    rw [← f1]; unfold wo; rw [List.filter_filter]
    refine List.filter_congr fun c _=>?_
    cases h:ltS c.name s with
    | false=>simp
    | true=>simp [ltS_ne h]
  have e2:l.calls.filter (fun c=>ltS s c.name) = (wo l.calls s).drop k:=by
    rw [← f2]; unfold wo; rw [List.filter_filter]
    refine List.filter_congr fun c _=>?_
    rcases ltS_tri c.name s with h | h | h
    · rw [h,ltS_asymm h]; simp
    · rw [h,ltS_irr]; simp
    · rw [h,ltS_asymm h]; simp [(ltS_ne h).symm]
  rw [e,putL_eq hu,e1,e2]
theorem rC_set {L:List GCall} {j:Nat} (h:j < L.length) (c:GCall):(rC L).take (j * 2) ++ (AV.s c.name :: AV.i .u32 c.act :: (rC L).drop (j * 2 + 2)) = rC (L.set j c):=by
  have e:j * 2 + 2 = (j + 1) * 2:=by omega
  rw [e,rC_take,rC_drop,List.set_eq_take_append_cons_drop,if_pos h,← rC_app,rC_cons]
theorem swap_lists {α:Type} (d c:α) (B:List α):∀ A:List α,((A ++ d :: c :: B).set (A.length + 1) d).set A.length c = A ++ c :: d :: B
  | []=>rfl
  | a :: A=>by
    have:=swap_lists d c B A
    simp only [List.cons_append,List.length_cons,List.set_cons_succ,this]
theorem put_tail (g1 g2:Nat) (l:GList) (hM:mayM l = true) (s:List UInt8) (n:Int) :
    S P 0 (ir_vestibuleref16_Put_c4 g1 g2) (endX [.cell 6 2 true] fun v' h'=>Frz h' v' (.agg (cList (putM l s n)))) (mkT [(6,.ptr 0 0),(7,.ptr 1 0)])
      (mkH 0 [.cells 0 true false [.i .u8 0,.nils],.cells 0 true false [.i .u8 l.mode,.own 2 (wo l.calls s ++ [(⟨s,n⟩:GCall)]).length],.cells 2 true true (rC (wo l.calls s ++ [(⟨s,n⟩:GCall)]))]):=by
  have hlen:(wo l.calls s).length ≤ 40:=Nat.le_trans (List.length_filter_le _ _) (may_len hM)
  have hup:Up (wo l.calls s):=up_filter ((mayM_iff l).1 hM).2.2 _
  have hne:∀ c ∈ wo l.calls s,c.name ≠ s:=by
    intro c hc; have:=(List.mem_filter.1 hc).2; simpa using this
  have fin:=fun {k:Nat}=>putM_sort hM s n (k:=k)
  generalize wo l.calls s = R at hlen hup hne fin
  have hRl:(R ++ [(⟨s,n⟩:GCall)]).length = R.length + 1:=by simp
  refine V_sound ?_
  simp only [ir_vestibuleref16_Put_c4,hRl,argsT,H0,mkT,mkH,trL,List.length_cons,List.length_nil,Nat.reduceAdd,Nat.zero_add]
  have hw0:IntKind.wrap .i64 (((R.length + 1:Nat):Int) - 1) = (R.length:Int):=by rw [wrap64 (by omega) (by omega)]; omega
  have hw0':IntKind.wrap .i64 (R.length:Int) = (R.length:Int):=wrap64 (by omega) (by omega)
  simp only [↓vS,cvF_pc,vP,shb,shv,shvs,she_nil,she_cons,vC,vQ,not_false_eq_true,Nat.reduceEqDiff,↓reduceIte,eq_self,Nat.reduceAdd,Nat.reduceMul,Nat.reduceSub,Nat.reduceLeDiff,Nat.reduceLT,defd,cellsOf,wr,packR,Int.reduceLE,Int.reduceLT,Int.reduceEq,Int.cast_ofNat_Int,Int.reduceToNat,hw0]
  refine SL.loop (α:=Nat) (fun k=>[(6,.ptr 0 0),(7,.ptr 1 0),(8,.i .i64 k)]) (fun k=>[.cells 0 true false [.i .u8 0,.nils],.cells 0 true false [.i .u8 l.mode,.own 2 (R.length + 1)],.cells 2 true true (rC (R.take k ++ ⟨s,n⟩ :: R.drop k))])
    (fun k=>k ≤ R.length ∧ ∀ c ∈ R.drop k,ltS s c.name = true) (fun k=>k) R.length [0,1,2] ?_ ?_ ?_ rfl ?_ ?_
  · simp [vW,bw_map,mapAt_map,mapClo_it,mapClo_nil,mapClo_cons,vP,vZ,Tr.get_set,hw0']
  · simp [vW,bw_map,mapAt_map,mapClo_it,mapClo_nil,mapClo_cons,vP,vZ,Tr.get_set,nvs_self,rC_clos]
  · simp
  · exact ⟨Nat.le_refl _,fun c hc=>by rw [List.drop_of_length_le (Nat.le_refl _)] at hc; cases hc⟩
  rintro k ⟨hk,hI⟩ G ih
  have h2:∀ c ∈ R.drop k,ltS c.name s = false:=fun c hc=>ltS_asymm (hI c hc)
  have hLl:(R.take k ++ (⟨s,n⟩:GCall) :: R.drop k).length = R.length + 1:=by simp; omega
  have stop:(∀ c ∈ R.take k,ltS c.name s = true) → putM l s n = ⟨l.mode,R.take k ++ ⟨s,n⟩ :: R.drop k⟩:=fun h1=>fin h1 h2
  simp only [argsT,H0,mkT,mkH,trL,List.length_cons,List.length_nil,Nat.reduceAdd,Nat.zero_add]
  cases k with
  | zero =>
    have hf:=stop (fun c hc=>by cases hc)
    have hn:¬ (0:Int) < ((0:Nat):Int):=by decide
    rw [hf]
    generalize (R.take 0 ++ (⟨s,n⟩:GCall) :: R.drop 0) = L at hLl
    simp only [↓vS,cvF_pc,vP,shb,shv,shvs,she_nil,she_cons,vC,vQ,not_false_eq_true,Nat.reduceEqDiff,↓reduceIte,eq_self,Nat.reduceAdd,Nat.reduceMul,Nat.reduceSub,Nat.reduceLeDiff,Nat.reduceLT,defd,cellsOf,wr,packR,Int.reduceLE,Int.reduceLT,Int.reduceEq,Int.cast_ofNat_Int,Int.reduceToNat]
    refine VD_pc ?_
    simp only [↓vS,cvF_pc,vP,shb,shv,shvs,she_nil,she_cons,vC,vQ,not_false_eq_true,Nat.reduceEqDiff,↓reduceIte,eq_self,Nat.reduceAdd,Nat.reduceMul,Nat.reduceSub,Nat.reduceLeDiff,Nat.reduceLT,defd,cellsOf,wr,packR,Int.reduceLE,Int.reduceLT,Int.reduceEq,Int.cast_ofNat_Int,Int.reduceToNat,hn]
    simp [vZ,vP,Tr.get_set,cList,frzs_self rC_clos,hLl]
  | succ k =>
    have hkl:k < R.length:=by omega
    have hp:(0:Int) < ((k + 1:Nat):Int):=by omega
    have hw1:IntKind.wrap .i64 (((k + 1:Nat):Int) - 1) = (k:Int):=by rw [wrap64 (by omega) (by omega)]; omega
    have hd:R[k]? = some R[k]:=List.getElem?_eq_getElem hkl
    have htk:R.take (k + 1) = R.take k ++ [R[k]]:=by rw [List.take_add_one,hd]; rfl
    have hdr:R.drop k = R[k] :: R.drop (k + 1):=List.drop_eq_getElem_cons hkl
    have hLe:R.take (k + 1) ++ (⟨s,n⟩:GCall) :: R.drop (k + 1) = R.take k ++ R[k] :: ⟨s,n⟩ :: R.drop (k + 1):=by rw [htk,List.append_assoc]; rfl
    have hAl:(R.take k).length = k:=by simp; omega
    have hswap:=swap_lists R[k] ⟨s,n⟩ (R.drop (k + 1)) (R.take k)
    rw [hAl,← hLe] at hswap
    have hx1:(R.take (k + 1) ++ (⟨s,n⟩:GCall) :: R.drop (k + 1))[k + 1]? = some ⟨s,n⟩:=by
      rw [hLe,List.getElem?_append_right (by omega),hAl,Nat.add_sub_cancel_left]; rfl
    have hx0:(R.take (k + 1) ++ (⟨s,n⟩:GCall) :: R.drop (k + 1))[k]? = some R[k]:=by
      rw [hLe,List.getElem?_append_right (by omega),hAl]; simp
    have hdm:R[k] ∈ R:=List.getElem_mem _
    have hI2:ltS s R[k].name = true → ∀ c ∈ R.drop k,ltS s c.name = true:=by
      intro h c hc
      rw [hdr] at hc
      rcases List.mem_cons.1 hc with rfl | hc
      · exact h
      · exact hI c hc
    have hstop2:ltS s R[k].name = false → ∀ c ∈ R.take (k + 1),ltS c.name s = true:=by
      intro h c hc
      have hk1:ltS R[k].name s = true:=by
        rcases ltS_tri R[k].name s with h1 | h1 | h1
        · exact h1
        · exact absurd h1 (hne _ hdm)
        · rw [h1] at h; cases h
      rw [htk] at hc
      rcases List.mem_append.1 hc with hc | hc
      · have hu2:Up (R.take k ++ [R[k]]):=by rw [← htk]; exact List.Pairwise.sublist (List.take_sublist _ _) hup
        exact ltS_trans ((List.pairwise_append.1 hu2).2.2 c hc R[k] (by simp)) hk1
      · rw [List.mem_singleton.1 hc]; exact hk1
    have g1:(rC (R.take (k + 1) ++ (⟨s,n⟩:GCall) :: R.drop (k + 1)))[(k + 1) * 2]? = some (.s s):=rC_get hx1 (i:=0) (by decide)
    have g0:(rC (R.take (k + 1) ++ (⟨s,n⟩:GCall) :: R.drop (k + 1)))[k * 2]? = some (.s R[k].name):=rC_get hx0 (i:=0) (by decide)
    have e1:=rC_elem hx1
    have e0:=rC_elem hx0
    have s1:=rC_set (L:=R.take (k + 1) ++ (⟨s,n⟩:GCall) :: R.drop (k + 1)) (j:=k + 1) (by omega) R[k]
    have s0:=rC_set (L:=(R.take (k + 1) ++ (⟨s,n⟩:GCall) :: R.drop (k + 1)).set (k + 1) R[k]) (j:=k) (by rw [List.length_set]; omega) ⟨s,n⟩
    rw [hswap] at s0
    have hll1:(rC ((R.take (k + 1) ++ (⟨s,n⟩:GCall) :: R.drop (k + 1)).set (k + 1) R[k])).length = (R.length + 1) * 2:=by rw [rC_len,List.length_set,hLl]
    cases hlt:ltS s R[k].name with
    | false =>
      have hf:=stop (hstop2 hlt)
      rw [hf]
      generalize (R.take (k + 1) ++ (⟨s,n⟩:GCall) :: R.drop (k + 1)) = L at hLl g1 g0
      have b1:k + 1 < R.length + 1:=by omega
      have b0:k < R.length + 1:=by omega
      simp only [↓vS,cvF_pc,vP,shb,shv,shvs,she_nil,she_cons,vC,vQ,not_false_eq_true,Nat.reduceEqDiff,↓reduceIte,eq_self,Nat.reduceAdd,Nat.reduceMul,Nat.reduceSub,Nat.reduceLeDiff,Nat.reduceLT,defd,cellsOf,wr,packR,Int.reduceLE,Int.reduceLT,Int.reduceEq,Int.cast_ofNat_Int,Int.reduceToNat]
      refine VD_pc ?_
      simp only [↓vS,cvF_pc,vP,shb,shv,shvs,she_nil,she_cons,vC,vQ,not_false_eq_true,Nat.reduceEqDiff,↓reduceIte,eq_self,Nat.reduceAdd,Nat.reduceMul,Nat.reduceSub,Nat.reduceLeDiff,Nat.reduceLT,defd,cellsOf,wr,packR,Int.reduceLE,Int.reduceLT,Int.reduceEq,Int.cast_ofNat_Int,Int.reduceToNat,hp,hw1,b1,b0,g1,g0,hlt]
      simp [vZ,vP,Tr.get_set,cList,frzs_self rC_clos,hLl]
    | true =>
      have ih2:=ih k ⟨by omega,hI2 hlt⟩ (by omega)
      rw [hdr] at ih2
      generalize (R.take (k + 1) ++ (⟨s,n⟩:GCall) :: R.drop (k + 1)) = L at hLl g1 g0 e1 e0 s1 s0 hll1
      have hll:(rC L).length = (R.length + 1) * 2:=by rw [rC_len,hLl]
      have b1:k + 1 < R.length + 1:=by omega
      have b0:k < R.length + 1:=by omega
      have c1:(k + 1) * 2 + 2 ≤ (R.length + 1) * 2:=by omega
      have c0:k * 2 + 2 ≤ (R.length + 1) * 2:=by omega
      simp only [↓vS,cvF_pc,vP,shb,shv,shvs,she_nil,she_cons,vC,vQ,not_false_eq_true,Nat.reduceEqDiff,↓reduceIte,eq_self,Nat.reduceAdd,Nat.reduceMul,Nat.reduceSub,Nat.reduceLeDiff,Nat.reduceLT,defd,cellsOf,wr,packR,Int.reduceLE,Int.reduceLT,Int.reduceEq,Int.cast_ofNat_Int,Int.reduceToNat]
      refine VD_pc ?_
      simp only [↓vS,cvF_pc,vP,shb,shv,shvs,she_nil,she_cons,vC,vQ,not_false_eq_true,Nat.reduceEqDiff,↓reduceIte,eq_self,Nat.reduceAdd,Nat.reduceMul,Nat.reduceSub,Nat.reduceLeDiff,Nat.reduceLT,defd,cellsOf,wr,packR,Int.reduceLE,Int.reduceLT,Int.reduceEq,Int.cast_ofNat_Int,Int.reduceToNat,hp,hw1,b1,b0,g1,g0,hlt]
      refine VD_pc ?_
      simp (decide:=true) only [↓vS,cvF_pc,vP,shb,shv,shvs,she_nil,she_cons,vC,vQ,not_false_eq_true,Nat.reduceEqDiff,↓reduceIte,eq_self,Nat.reduceAdd,Nat.reduceMul,Nat.reduceSub,Nat.reduceLeDiff,Nat.reduceLT,defd,cellsOf,wr,packR,Int.reduceLE,Int.reduceLT,Int.reduceEq,Int.cast_ofNat_Int,Int.reduceToNat,hp,hw1,b1,b0,hll,hll1,c1,c0,e1,e0,cCall,s1,s0]
      refine ih2 _ _ (Wk.mk _ _ [0,1,2] ?_ ?_ ?_ rfl)
      · simp [vW,bw_map,mapAt_map,mapClo_it,mapClo_nil,mapClo_cons,vP,vZ,Tr.get_set]
      · simp [vW,bw_map,mapAt_map,mapClo_it,mapClo_nil,mapClo_cons,vP,vZ,Tr.get_set,nvs_self,rC_clos]
      · simp
theorem put16 {g1 g2:Nat} (hc:chkFn P f (ir_vestibuleref16_Put g1 g2) = true) (h1:cMayR P g1) (h2:cTake0 P g2):cPutR P f:=by
  intro l s n hl hR
  refine Pure.mk hc rfl ?_
  simp only [ir_vestibuleref16_Put,cList,argsT,H0,mkT,mkH,trL,List.length_cons,List.length_nil,Nat.reduceAdd,Nat.zero_add]
  simp only [↓vS,cvF_pc,vP,shb,shv,shvs,she_nil,she_cons,vC,vQ,not_false_eq_true,Nat.reduceEqDiff,↓reduceIte,eq_self,Nat.reduceAdd,Nat.reduceMul,Nat.reduceSub,Nat.reduceLeDiff,Nat.reduceLT,defd,cellsOf,wr,packR,Int.reduceLE,Int.reduceLT,Int.reduceEq,Int.cast_ofNat_Int,Int.reduceToNat]
  refine (h1 l hl hR).sc ?_
  cases hM:mayM l with
  | false =>
    have hw:putM l s n = l:=by unfold putM; rw [hM]; rfl
    rw [hw]
    simp only [↓vS,cvF_pc,vP,shb,shv,shvs,she_nil,she_cons,vC,vQ,not_false_eq_true,Nat.reduceEqDiff,↓reduceIte,eq_self,Nat.reduceAdd,Nat.reduceMul,Nat.reduceSub,Nat.reduceLeDiff,Nat.reduceLT,defd,cellsOf,wr,packR,Int.reduceLE,Int.reduceLT,Int.reduceEq,Int.cast_ofNat_Int,Int.reduceToNat]
    simp [vZ,vP,Tr.get_set,cList,frzs_self rC_clos]
  | true =>
    have hlen:(wo l.calls s).length ≤ 40:=Nat.le_trans (List.length_filter_le _ _) (may_len hM)
    have hr1:(wo l.calls s).length + 1 ≤ roomB:=by simp only [roomB]; omega
    have hr2:((wo l.calls s).length + 1) * 24 ≤ roomB:=by simp only [roomB]; omega
    have hap:rC (wo l.calls s) ++ [AV.s s,.i .u32 n] = rC (wo l.calls s ++ [⟨s,n⟩]):=by rw [← rC_app]; rfl
    simp only [↓vS,cvF_pc,vP,shb,shv,shvs,she_nil,she_cons,vC,vQ,not_false_eq_true,Nat.reduceEqDiff,↓reduceIte,eq_self,Nat.reduceAdd,Nat.reduceMul,Nat.reduceSub,Nat.reduceLeDiff,Nat.reduceLT,defd,cellsOf,wr,packR,Int.reduceLE,Int.reduceLT,Int.reduceEq,Int.cast_ofNat_Int,Int.reduceToNat]
    refine (h2 l s hl).sc ?_
    simp only [pushs_cons,pushs_nil,push_mk,shb,shv,shvs,she_nil,she_cons,List.map_cons,List.map_nil,up_mk,down_mk,Nat.reduceAdd,Nat.zero_add,shvs_clo rC_clos]
    simp (decide:=true) only [↓vS,cvF_pc,vP,shb,shv,shvs,she_nil,she_cons,vC,vQ,not_false_eq_true,Nat.reduceEqDiff,↓reduceIte,eq_self,Nat.reduceAdd,Nat.reduceMul,Nat.reduceSub,Nat.reduceLeDiff,Nat.reduceLT,defd,cellsOf,wr,packR,Int.reduceLE,Int.reduceLT,Int.reduceEq,Int.cast_ofNat_Int,Int.reduceToNat,hr1,hr2,rC_len,hap]
    refine S.weak (Wk.mk _ _ [1,3,5] ?_ ?_ ?_ rfl) (put_tail g1 g2 l hM s n)
    · simp [vW,bw_map,mapAt_map,mapClo_it,mapClo_nil,mapClo_cons,vP,vZ,Tr.get_set]
    · simp [vW,bw_map,mapAt_map,mapClo_it,mapClo_nil,mapClo_cons,vP,vZ,Tr.get_set,nvs_self,rC_clos]
    · simp
end Go.Kc
end
section
/- What the document makes of a list by a value. Condition: the functions' texts are these. -/
namespace Go.Kc
variable {P:Program} {f:Nat}
def ir_vestibuleref16_Step_c44 (f_vestibuleref16_May f_vestibuleref15_Words f_vestibuleref15_Turned f_vestibuleref15_Read f_vestibuleref11_Expand f_vestibuleref09_Known f_vestibuleref16_Put f_vestibuleref16_take:Nat):ICode:=.reg false [⟨(some 44),.op (.mov (.t 12)),none⟩,
    ⟨(some 45),.op (.bin .add (.t 44) (.c (.i .i64 1))),none⟩,
    ⟨(some 12),.op (.mov (.t 45)),none⟩]
def ir_vestibuleref16_Step_c17 (f_vestibuleref16_May f_vestibuleref15_Words f_vestibuleref15_Turned f_vestibuleref15_Read f_vestibuleref11_Expand f_vestibuleref09_Known f_vestibuleref16_Put f_vestibuleref16_take:Nat):ICode:=.seq (.reg false [⟨(some 17),.op (.mov (.c (.i .i64 0))),none⟩])
  (.blk 2 (.loop (.seq (.seq (.reg false [⟨(some 114),.op (.mov (.t 17)),none⟩,
    ⟨(some 115),.op (.mov (.t 16)),none⟩,
    ⟨(some 116),.op (.len false (.t 115)),none⟩,
    ⟨(some 117),.op (.bin .lss (.t 114) (.t 116)),none⟩])
  (.cond (.t 117) (.skip) (.exit 2)))
  (.seq (.blk 3 (.seq (.reg false [⟨(some 120),.op (.fAddr 0 (.t 3)),none⟩,
    ⟨(some 121),.op (.load1 (.t 120)),none⟩,
    ⟨(some 122),.op (.bin .eql (.t 121) (.c (.i .u8 1))),none⟩,
    ⟨(some 123),.op (.mov (.t 122)),none⟩,
    ⟨(some 124),.op (.mov (.t 9)),(some (123,true))⟩,
    ⟨(some 125),.op (.un .not (.t 124)),(some (123,true))⟩,
    ⟨(some 126),.op (.mov (.t 125)),(some (123,true))⟩,
    ⟨(some 127),.op (.fAddr 2 (.t 14)),(some (126,false))⟩,
    ⟨(some 128),.op (.load1 (.t 127)),(some (126,false))⟩,
    ⟨(some 129),.op (.pick (.t 126) (.c (.b true)) (.t 128)),(some (123,true))⟩,
    ⟨(some 130),.op (.pick (.t 123) (.t 129) (.c (.b false))),none⟩,
    ⟨(some 131),.op (.mov (.t 130)),none⟩,
    ⟨(some 132),.op (.fAddr 0 (.t 3)),(some (131,false))⟩,
    ⟨(some 133),.op (.load1 (.t 132)),(some (131,false))⟩,
    ⟨(some 134),.op (.bin .eql (.t 133) (.c (.i .u8 2))),(some (131,false))⟩,
    ⟨(some 135),.op (.mov (.t 134)),(some (131,false))⟩,
    ⟨(some 136),.op (.mov (.t 9)),(some (135,true))⟩,
    ⟨(some 137),.op (.pick (.t 135) (.t 136) (.c (.b false))),(some (131,false))⟩,
    ⟨(some 138),.op (.pick (.t 131) (.c (.b true)) (.t 137)),none⟩])
  (.cond (.t 138) (.reg true [⟨(some 139),.op (.loadN 2 (.t 3)),none⟩,
    ⟨(some 140),.op (.mov (.t 16)),none⟩,
    ⟨(some 141),.op (.mov (.t 17)),none⟩,
    ⟨(some 142),.op (.iAddrS 1 (.t 140) (.t 141)),none⟩,
    ⟨(some 143),.op (.load1 (.t 142)),none⟩,
    ⟨(some 144),.op (.fAddr 1 (.t 14)),none⟩,
    ⟨(some 145),.op (.load1 (.t 144)),none⟩,
    ⟨(some 146),.callF f_vestibuleref16_Put [(.t 139),(.t 143),(.t 145)],none⟩,
    ⟨none,.op (.store 2 (.t 3) (.t 146)),none⟩]) (.reg true [⟨(some 147),.op (.loadN 2 (.t 3)),none⟩,
    ⟨(some 148),.op (.mov (.t 16)),none⟩,
    ⟨(some 149),.op (.mov (.t 17)),none⟩,
    ⟨(some 150),.op (.iAddrS 1 (.t 148) (.t 149)),none⟩,
    ⟨(some 151),.op (.load1 (.t 150)),none⟩,
    ⟨(some 152),.callF f_vestibuleref16_take [(.t 147),(.t 151)],none⟩,
    ⟨none,.op (.store 2 (.t 3) (.t 152)),none⟩]))))
  (.reg false [⟨(some 118),.op (.mov (.t 17)),none⟩,
    ⟨(some 119),.op (.bin .add (.t 118) (.c (.i .i64 1))),none⟩,
    ⟨(some 17),.op (.mov (.t 119)),none⟩])))))
def ir_vestibuleref16_Step_c97 (f_vestibuleref16_May f_vestibuleref15_Words f_vestibuleref15_Turned f_vestibuleref15_Read f_vestibuleref11_Expand f_vestibuleref09_Known f_vestibuleref16_Put f_vestibuleref16_take:Nat):ICode:=.seq (.seq (.reg false [⟨(some 97),.op (.fAddr 2 (.t 14)),none⟩,
    ⟨(some 98),.op (.load1 (.t 97)),none⟩,
    ⟨(some 99),.op (.mov (.t 98)),none⟩,
    ⟨(some 100),.op (.mov (.t 2)),(some (99,true))⟩,
    ⟨(some 101),.op (.un .not (.t 100)),(some (99,true))⟩,
    ⟨(some 102),.op (.mov (.t 101)),(some (99,true))⟩,
    ⟨(some 103),.op (.mov (.t 9)),(some (102,false))⟩,
    ⟨(some 104),.op (.un .not (.t 103)),(some (102,false))⟩,
    ⟨(some 105),.op (.pick (.t 102) (.c (.b true)) (.t 104)),(some (99,true))⟩,
    ⟨(some 106),.op (.pick (.t 99) (.t 105) (.c (.b false))),none⟩])
  (.cond (.t 106) (.seq (.reg false [⟨(some 107),.op (.mov (.t 10)),none⟩,
    ⟨(some 108),.op (.mov (.t 13)),none⟩,
    ⟨(some 109),.op (.build [.s [],.i .i64 0,.i .i64 0,.s []] [(2,1,(.c (.i .i64 161))),(3,1,(.t 108))]),none⟩,
    ⟨(some 110),.op (.buildS 1 [.s [],.i .i64 0,.i .i64 0,.s []] [(0,4,(.t 109))]),none⟩,
    ⟨(some 111),.op (.app 4 48 true (.t 107) (.t 110)),none⟩,
    ⟨(some 10),.op (.mov (.t 111)),none⟩])
  (.seq (.reg false [⟨(some 112),.op (.fAddr 2 (.t 14)),none⟩,
    ⟨none,.op (.store 1 (.t 112) (.c (.b false))),none⟩])
  (.reg false [⟨(some 113),.op (.fAddr 1 (.t 14)),none⟩,
    ⟨none,.op (.store 1 (.t 113) (.c (.i .u32 0))),none⟩]))) (.skip)))
  (.cut (ir_vestibuleref16_Step_c17 f_vestibuleref16_May f_vestibuleref15_Words f_vestibuleref15_Turned f_vestibuleref15_Read f_vestibuleref11_Expand f_vestibuleref09_Known f_vestibuleref16_Put f_vestibuleref16_take))
def ir_vestibuleref16_Step_c89 (f_vestibuleref16_May f_vestibuleref15_Words f_vestibuleref15_Turned f_vestibuleref15_Read f_vestibuleref11_Expand f_vestibuleref09_Known f_vestibuleref16_Put f_vestibuleref16_take:Nat):ICode:=.seq (.seq (.reg false [⟨(some 89),.op (.mov (.t 15)),none⟩,
    ⟨(some 90),.op (.bin .neq (.t 89) (.c (.i .i64 0))),none⟩])
  (.cond (.t 90) (.seq (.reg false [⟨(some 91),.op (.mov (.t 10)),none⟩,
    ⟨(some 92),.op (.mov (.t 15)),none⟩,
    ⟨(some 93),.op (.mov (.t 13)),none⟩,
    ⟨(some 94),.op (.build [.s [],.i .i64 0,.i .i64 0,.s []] [(2,1,(.t 92)),(3,1,(.t 93))]),none⟩,
    ⟨(some 95),.op (.buildS 1 [.s [],.i .i64 0,.i .i64 0,.s []] [(0,4,(.t 94))]),none⟩,
    ⟨(some 96),.op (.app 4 48 true (.t 91) (.t 95)),none⟩,
    ⟨(some 10),.op (.mov (.t 96)),none⟩])
  (.exit 1)) (.skip)))
  (.cut (ir_vestibuleref16_Step_c97 f_vestibuleref16_May f_vestibuleref15_Words f_vestibuleref15_Turned f_vestibuleref15_Read f_vestibuleref11_Expand f_vestibuleref09_Known f_vestibuleref16_Put f_vestibuleref16_take))
def ir_vestibuleref16_Step_c56 (f_vestibuleref16_May f_vestibuleref15_Words f_vestibuleref15_Turned f_vestibuleref15_Read f_vestibuleref11_Expand f_vestibuleref09_Known f_vestibuleref16_Put f_vestibuleref16_take:Nat):ICode:=.seq (.reg false [⟨(some 56),.op (.mov (.t 11)),none⟩,
    ⟨(some 57),.op (.mov (.t 12)),none⟩,
    ⟨(some 58),.op (.iAddrS 1 (.t 56) (.t 57)),none⟩,
    ⟨(some 59),.op (.load1 (.t 58)),none⟩,
    ⟨(some 60),.callF f_vestibuleref15_Read [(.t 59)],none⟩,
    ⟨(some 55),.op (.mov (.t 60)),none⟩,
    ⟨(some 61),.op (.ext (.t 55) 0),none⟩,
    ⟨(some 62),.op (.ext (.t 55) 1),none⟩,
    ⟨(some 14),.op (.alloc [.s [],.i .u32 0,.b false]),none⟩,
    ⟨none,.op (.store 3 (.t 14) (.t 61)),none⟩,
    ⟨(some 15),.op (.mov (.t 62)),none⟩])
  (.seq (.reg false [⟨(some 16),.op (.mov (.c (.nils))),none⟩])
  (.seq (.seq (.reg false [⟨(some 63),.op (.mov (.t 15)),none⟩,
    ⟨(some 64),.op (.bin .eql (.t 63) (.c (.i .i64 0))),none⟩,
    ⟨(some 65),.op (.mov (.t 64)),none⟩,
    ⟨(some 66),.op (.fAddr 0 (.t 14)),(some (65,true))⟩,
    ⟨(some 67),.op (.load1 (.t 66)),(some (65,true))⟩,
    ⟨(some 68),.op (.idxS (.t 67) (.c (.i .i64 0))),(some (65,true))⟩,
    ⟨(some 69),.op (.bin .eql (.t 68) (.c (.i .u8 64))),(some (65,true))⟩,
    ⟨(some 70),.op (.pick (.t 65) (.t 69) (.c (.b false))),none⟩])
  (.cond (.t 70) (.reg false [⟨(some 72),.op (.fAddr 0 (.t 14)),none⟩,
    ⟨(some 73),.op (.load1 (.t 72)),none⟩,
    ⟨(some 74),.callF f_vestibuleref11_Expand [(.t 73)],none⟩,
    ⟨(some 71),.op (.mov (.t 74)),none⟩,
    ⟨(some 75),.op (.ext (.t 71) 0),none⟩,
    ⟨(some 76),.op (.ext (.t 71) 1),none⟩,
    ⟨(some 16),.op (.mov (.t 75)),none⟩,
    ⟨(some 15),.op (.mov (.t 76)),none⟩]) (.seq (.reg false [⟨(some 77),.op (.mov (.t 15)),none⟩,
    ⟨(some 78),.op (.bin .eql (.t 77) (.c (.i .i64 0))),none⟩,
    ⟨(some 79),.op (.mov (.t 78)),none⟩,
    ⟨(some 80),.op (.fAddr 0 (.t 14)),(some (79,true))⟩,
    ⟨(some 81),.op (.load1 (.t 80)),(some (79,true))⟩,
    ⟨(some 82),.callF f_vestibuleref09_Known [(.t 81)],(some (79,true))⟩,
    ⟨(some 83),.op (.pick (.t 79) (.t 82) (.c (.b false))),none⟩])
  (.cond (.t 83) (.reg false [⟨(some 84),.op (.fAddr 0 (.t 14)),none⟩,
    ⟨(some 85),.op (.load1 (.t 84)),none⟩,
    ⟨(some 86),.op (.buildS 1 [.s []] [(0,1,(.t 85))]),none⟩,
    ⟨(some 16),.op (.mov (.t 86)),none⟩]) (.seq (.reg false [⟨(some 87),.op (.mov (.t 15)),none⟩,
    ⟨(some 88),.op (.bin .eql (.t 87) (.c (.i .i64 0))),none⟩])
  (.cond (.t 88) (.reg false [⟨(some 15),.op (.mov (.c (.i .i64 90))),none⟩]) (.skip)))))))
  (.cut (ir_vestibuleref16_Step_c89 f_vestibuleref16_May f_vestibuleref15_Words f_vestibuleref15_Turned f_vestibuleref15_Read f_vestibuleref11_Expand f_vestibuleref09_Known f_vestibuleref16_Put f_vestibuleref16_take))))
def ir_vestibuleref16_Step_c7 (f_vestibuleref16_May f_vestibuleref15_Words f_vestibuleref15_Turned f_vestibuleref15_Read f_vestibuleref11_Expand f_vestibuleref09_Known f_vestibuleref16_Put f_vestibuleref16_take:Nat):ICode:=.seq (.seq (.reg false [⟨(some 12),.op (.mov (.c (.i .i64 0))),none⟩])
  (.blk 0 (.loop (.seq (.seq (.reg false [⟨(some 40),.op (.mov (.t 12)),none⟩,
    ⟨(some 41),.op (.mov (.t 11)),none⟩,
    ⟨(some 42),.op (.len false (.t 41)),none⟩,
    ⟨(some 43),.op (.bin .lss (.t 40) (.t 42)),none⟩])
  (.cond (.t 43) (.skip) (.exit 0)))
  (.seq (.blk 1 (.seq (.reg false [⟨(some 46),.op (.mov (.t 11)),none⟩,
    ⟨(some 47),.op (.mov (.t 12)),none⟩,
    ⟨(some 48),.op (.iAddrS 1 (.t 46) (.t 47)),none⟩,
    ⟨(some 49),.op (.load1 (.t 48)),none⟩,
    ⟨(some 13),.op (.mov (.t 49)),none⟩])
  (.seq (.seq (.reg false [⟨(some 50),.op (.mov (.t 13)),none⟩,
    ⟨(some 51),.op (.len true (.t 50)),none⟩,
    ⟨(some 52),.op (.bin .gtr (.t 51) (.c (.i .i64 60))),none⟩])
  (.cond (.t 52) (.reg false [⟨(some 53),.op (.mov (.t 13)),none⟩,
    ⟨(some 54),.op (.slcStr (.t 53) none (some (.c (.i .i64 60)))),none⟩,
    ⟨(some 13),.op (.mov (.t 54)),none⟩]) (.skip)))
  (.cut (ir_vestibuleref16_Step_c56 f_vestibuleref16_May f_vestibuleref15_Words f_vestibuleref15_Turned f_vestibuleref15_Read f_vestibuleref11_Expand f_vestibuleref09_Known f_vestibuleref16_Put f_vestibuleref16_take)))))
  (.cut (ir_vestibuleref16_Step_c44 f_vestibuleref16_May f_vestibuleref15_Words f_vestibuleref15_Turned f_vestibuleref15_Read f_vestibuleref11_Expand f_vestibuleref09_Known f_vestibuleref16_Put f_vestibuleref16_take)))))))
  (.seq (.reg false [⟨(some 153),.op (.loadN 2 (.t 3)),none⟩,
    ⟨(some 154),.op (.mov (.t 10)),none⟩,
    ⟨none,.op (.store 2 (.t 6) (.t 153)),none⟩,
    ⟨(some 7),.op (.mov (.t 154)),none⟩])
  (.ret))
def ir_vestibuleref16_Step (f_vestibuleref16_May f_vestibuleref15_Words f_vestibuleref15_Turned f_vestibuleref15_Read f_vestibuleref11_Expand f_vestibuleref09_Known f_vestibuleref16_Put f_vestibuleref16_take:Nat):IFn:=⟨[.cell 6 2 true,.tmp 7],
  .seq (.reg false [⟨(some 3),.op (.box (.t 0)),none⟩,
    ⟨(some 6),.op (.alloc [.i .u8 0,.nils]),none⟩,
    ⟨(some 7),.op (.mov (.c (.nils))),none⟩])
  (.seq (.seq (.reg false [⟨(some 18),.op (.loadN 2 (.t 3)),none⟩,
    ⟨(some 19),.callF f_vestibuleref16_May [(.t 18)],none⟩,
    ⟨(some 20),.op (.un .not (.t 19)),none⟩])
  (.cond (.t 20) (.seq (.reg false [⟨(some 21),.op (.loadN 2 (.t 3)),none⟩,
    ⟨none,.op (.store 2 (.t 6) (.t 21)),none⟩,
    ⟨(some 7),.op (.mov (.c (.nils))),none⟩])
  (.ret)) (.skip)))
  (.seq (.seq (.reg false [⟨(some 22),.op (.mov (.t 1)),none⟩,
    ⟨(some 23),.callF f_vestibuleref15_Words [(.t 22)],none⟩,
    ⟨(some 24),.op (.len false (.t 23)),none⟩,
    ⟨(some 25),.op (.bin .eql (.t 24) (.c (.i .i64 0))),none⟩])
  (.cond (.t 25) (.seq (.reg false [⟨(some 26),.op (.build [.i .u8 0,.nils] []),none⟩,
    ⟨none,.op (.store 2 (.t 6) (.t 26)),none⟩,
    ⟨(some 7),.op (.mov (.c (.nils))),none⟩])
  (.ret)) (.skip)))
  (.seq (.reg false [⟨(some 28),.op (.mov (.t 1)),none⟩,
    ⟨(some 29),.callF f_vestibuleref15_Turned [(.t 28)],none⟩,
    ⟨(some 27),.op (.mov (.t 29)),none⟩,
    ⟨(some 30),.op (.ext (.t 27) 0),none⟩,
    ⟨(some 31),.op (.ext (.t 27) 1),none⟩,
    ⟨(some 8),.op (.mov (.t 30)),none⟩,
    ⟨(some 9),.op (.mov (.t 31)),none⟩])
  (.seq (.seq (.reg false [⟨(some 32),.op (.fAddr 0 (.t 3)),none⟩,
    ⟨(some 33),.op (.load1 (.t 32)),none⟩,
    ⟨(some 34),.op (.bin .eql (.t 33) (.c (.i .u8 0))),none⟩])
  (.cond (.t 34) (.seq (.reg false [⟨(some 35),.op (.fAddr 0 (.t 3)),none⟩,
    ⟨none,.op (.store 1 (.t 35) (.c (.i .u8 1))),none⟩])
  (.seq (.reg false [⟨(some 36),.op (.mov (.t 9)),none⟩])
  (.cond (.t 36) (.reg false [⟨(some 37),.op (.fAddr 0 (.t 3)),none⟩,
    ⟨none,.op (.store 1 (.t 37) (.c (.i .u8 2))),none⟩]) (.skip)))) (.skip)))
  (.seq (.reg false [⟨(some 10),.op (.mov (.c (.nils))),none⟩])
  (.seq (.reg false [⟨(some 38),.op (.mov (.t 8)),none⟩,
    ⟨(some 39),.callF f_vestibuleref15_Words [(.t 38)],none⟩,
    ⟨(some 11),.op (.mov (.t 39)),none⟩])
  (.cut (ir_vestibuleref16_Step_c7 f_vestibuleref16_May f_vestibuleref15_Words f_vestibuleref15_Turned f_vestibuleref15_Read f_vestibuleref11_Expand f_vestibuleref09_Known f_vestibuleref16_Put f_vestibuleref16_take))))))))⟩
theorem takeM_wo {l:GList} (h:mayM l = true) (s:List UInt8):takeM l s = ⟨l.mode,wo l.calls s⟩:=by unfold takeM; rw [h]; rfl
def insB (m:Int) (t has:Bool):Bool:=(decide (m = 1) && (!t || has)) || (decide (m = 2) && t)
theorem step16_in {g1 g2 g3 g4 g5 g6 g7 g8:Nat} (h7:cPutR P g7) (h8:cTake0 P g8) (fl t:Bool) (W N:List (List UInt8)) (j:Nat) (l:GList) (wd:Word) (ns:List GNote) (hW:W.length ≤ 1000) (hN:N.length ≤ 1000)
    (hl:mayM l = true) (hm:l.mode = 1 ∨ l.mode = 2) (hk:∀ n ∈ N,knownM n = true) (ha:actM wd.act = true) (Q:X → Tr AV → Hp → Prop)
    (hQ:∀ t' h',Wk 0 t' h' (mkT [(2,.b fl),(3,.ptr 0 0),(6,.ptr 1 0),(9,.b t),(10,.own 2 ns.length),(11,.fz W.length (rS W)),(12,.i .i64 j)]) (mkH 0 [.cells 0 true false (cList (N.foldl (stepN (insB l.mode t wd.has) wd.act) l)),.cells 0 true false [.i .u8 0,.nils],.cells 4 true true (rN ns)]) → Q .normal t' h') :
    S P 0 (ir_vestibuleref16_Step_c17 g1 g2 g3 g4 g5 g6 g7 g8) Q
      (mkT [(2,.b fl),(3,.ptr 0 0),(6,.ptr 1 0),(9,.b t),(10,.own 2 ns.length),(11,.fz W.length (rS W)),(12,.i .i64 j),(14,.ptr 3 0),(16,.fz N.length (rS N))])
      (mkH 0 [.cells 0 true false (cList l),.cells 0 true false [.i .u8 0,.nils],.cells 4 true true (rN ns),.cells 0 true false (cWord wd)]):=by
  refine V_sound ?_
  simp only [ir_vestibuleref16_Step_c17,cList,argsT,H0,mkT,mkH,trL,List.length_cons,List.length_nil,Nat.reduceAdd,Nat.zero_add]
  simp only [↓vS,cvF_pc,vP,shb,shv,shvs,she_nil,she_cons,vC,vQ,not_false_eq_true,Nat.reduceEqDiff,↓reduceIte,eq_self,Nat.reduceAdd,Nat.reduceMul,Nat.reduceSub,Nat.reduceLeDiff,Nat.reduceLT,defd,cellsOf,wr,packR,Int.reduceLE,Int.reduceLT,Int.reduceEq,Int.cast_ofNat_Int,Int.reduceToNat]
  generalize hins:insB l.mode t wd.has = ins at hQ
  refine SL.loop (α:=Nat) (fun k=>[(2,.b fl),(3,.ptr 0 0),(6,.ptr 1 0),(9,.b t),(10,.own 2 ns.length),(11,.fz W.length (rS W)),(12,.i .i64 j),(14,.ptr 3 0),(16,.fz N.length (rS N)),(17,.i .i64 k)])
    (fun k=>[.cells 0 true false (cList ((N.take k).foldl (stepN ins wd.act) l)),.cells 0 true false [.i .u8 0,.nils],.cells 4 true true (rN ns),.cells 0 true false (cWord wd)])
    (fun k=>k ≤ N.length) (fun k=>N.length - k) 0 [0,1,2,3] ?_ ?_ ?_ rfl ?_ ?_
  · simp [vW,bw_map,mapAt_map,mapClo_it,mapClo_nil,mapClo_cons,vP,vZ,Tr.get_set]
  · simp [vW,bw_map,mapAt_map,mapClo_it,mapClo_nil,mapClo_cons,vP,vZ,Tr.get_set,cList,nvs_self,rN_clos,rC_clos,cWord]
  · simp
  · exact Nat.zero_le _
  rintro k hk1 G ih
  have hmay:=foldN_may (ins:=ins) ha hl (by omega) (fun n hn=>hk n (List.mem_of_mem_take (i:=k) hn))
  have hlen:=may_len hmay
  have hmd:=foldN_mode ins wd.act (N.take k) l
  generalize hr:(N.take k).foldl (stepN ins wd.act) l = r at hmay hlen hmd ih ⊢
  simp only [argsT,H0,mkT,mkH,trL,List.length_cons,List.length_nil,Nat.reduceAdd,Nat.zero_add]
  by_cases hlt:k < N.length
  · have hx:(rS N)[k]? = some (.s N[k]):=by rw [rS_get,List.getElem?_eq_getElem hlt]; rfl
    have hw:IntKind.wrap .i64 ((k:Int) + 1) = ((k + 1:Nat):Int):=by rw [wrap64 (by omega) (by omega)]; omega
    have hnext:(N.take (k + 1)).foldl (stepN ins wd.act) l = stepN ins wd.act r N[k]:=by
      rw [List.take_add_one,List.getElem?_eq_getElem hlt,List.foldl_append,hr]; rfl
    have ih2:=ih (k + 1)
    rw [hnext] at ih2
    rw [← hmd] at hm hins
    have htw:=takeM_wo hmay N[k]
    have hrn:=may_rng hmay
    simp only [cList,cWord]
    simp only [↓vS,cvF_pc,vP,shb,shv,shvs,she_nil,she_cons,vC,vQ,not_false_eq_true,Nat.reduceEqDiff,↓reduceIte,eq_self,Nat.reduceAdd,Nat.reduceMul,Nat.reduceSub,Nat.reduceLeDiff,Nat.reduceLT,defd,cellsOf,wr,packR,Int.reduceLE,Int.reduceLT,Int.reduceEq,Int.cast_ofNat_Int,Int.reduceToNat,hlt]
    rcases hm with e | e
    · cases t with
      | true =>
        cases hh:wd.has with
        | true =>
          have hi:ins = true:=by rw [← hins,e,hh]; rfl
          subst hi
          simp (decide:=true) only [↓vS,cvF_pc,vP,shb,shv,shvs,she_nil,she_cons,vC,vQ,not_false_eq_true,Nat.reduceEqDiff,↓reduceIte,eq_self,Nat.reduceAdd,Nat.reduceMul,Nat.reduceSub,Nat.reduceLeDiff,Nat.reduceLT,defd,cellsOf,wr,packR,Int.reduceLE,Int.reduceLT,Int.reduceEq,Int.cast_ofNat_Int,Int.reduceToNat,e]
          refine VD_pc ?_
          simp only [↓vS,cvF_pc,vP,shb,shv,shvs,she_nil,she_cons,vC,vQ,not_false_eq_true,Nat.reduceEqDiff,↓reduceIte,eq_self,Nat.reduceAdd,Nat.reduceMul,Nat.reduceSub,Nat.reduceLeDiff,Nat.reduceLT,defd,cellsOf,wr,packR,Int.reduceLE,Int.reduceLT,Int.reduceEq,Int.cast_ofNat_Int,Int.reduceToNat,hlt,hx,Nat.mul_one]
          refine (h7 r N[k] wd.act (by omega) hrn).pc ?_
          simp only [↓vS,cvF_pc,vP,shb,shv,shvs,she_nil,she_cons,vC,vQ,not_false_eq_true,Nat.reduceEqDiff,↓reduceIte,eq_self,Nat.reduceAdd,Nat.reduceMul,Nat.reduceSub,Nat.reduceLeDiff,Nat.reduceLT,defd,cellsOf,wr,packR,Int.reduceLE,Int.reduceLT,Int.reduceEq,Int.cast_ofNat_Int,Int.reduceToNat,hw,cList]
          refine ih2 (by omega) (by omega) _ _ (Wk.mk _ _ [0,1,2,3] ?_ ?_ ?_ rfl)
          · simp [vW,bw_map,mapAt_map,mapClo_it,mapClo_nil,mapClo_cons,vP,vZ,Tr.get_set]
          · simp [vW,bw_map,mapAt_map,mapClo_it,mapClo_nil,mapClo_cons,vP,vZ,Tr.get_set,cList,nvs_self,rN_clos,rC_clos,cWord,stepN,hh]
          · simp
        | false =>
          have hi:ins = false:=by rw [← hins,e,hh]; rfl
          subst hi
          simp (decide:=true) only [↓vS,cvF_pc,vP,shb,shv,shvs,she_nil,she_cons,vC,vQ,not_false_eq_true,Nat.reduceEqDiff,↓reduceIte,eq_self,Nat.reduceAdd,Nat.reduceMul,Nat.reduceSub,Nat.reduceLeDiff,Nat.reduceLT,defd,cellsOf,wr,packR,Int.reduceLE,Int.reduceLT,Int.reduceEq,Int.cast_ofNat_Int,Int.reduceToNat,e]
          refine VD_pc ?_
          simp only [↓vS,cvF_pc,vP,shb,shv,shvs,she_nil,she_cons,vC,vQ,not_false_eq_true,Nat.reduceEqDiff,↓reduceIte,eq_self,Nat.reduceAdd,Nat.reduceMul,Nat.reduceSub,Nat.reduceLeDiff,Nat.reduceLT,defd,cellsOf,wr,packR,Int.reduceLE,Int.reduceLT,Int.reduceEq,Int.cast_ofNat_Int,Int.reduceToNat,hlt,hx,Nat.mul_one]
          refine (take0_pure h8 r N[k] (by omega)).pc ?_
          simp only [↓vS,cvF_pc,vP,shb,shv,shvs,she_nil,she_cons,vC,vQ,not_false_eq_true,Nat.reduceEqDiff,↓reduceIte,eq_self,Nat.reduceAdd,Nat.reduceMul,Nat.reduceSub,Nat.reduceLeDiff,Nat.reduceLT,defd,cellsOf,wr,packR,Int.reduceLE,Int.reduceLT,Int.reduceEq,Int.cast_ofNat_Int,Int.reduceToNat,hw,cList]
          refine ih2 (by omega) (by omega) _ _ (Wk.mk _ _ [0,1,2,3] ?_ ?_ ?_ rfl)
          · simp [vW,bw_map,mapAt_map,mapClo_it,mapClo_nil,mapClo_cons,vP,vZ,Tr.get_set]
          · simp [vW,bw_map,mapAt_map,mapClo_it,mapClo_nil,mapClo_cons,vP,vZ,Tr.get_set,cList,nvs_self,rN_clos,rC_clos,cWord,stepN,htw,hh,e]
          · simp
      | false =>
        cases hh:wd.has with
        | true =>
          have hi:ins = true:=by rw [← hins,e,hh]; rfl
          subst hi
          simp (decide:=true) only [↓vS,cvF_pc,vP,shb,shv,shvs,she_nil,she_cons,vC,vQ,not_false_eq_true,Nat.reduceEqDiff,↓reduceIte,eq_self,Nat.reduceAdd,Nat.reduceMul,Nat.reduceSub,Nat.reduceLeDiff,Nat.reduceLT,defd,cellsOf,wr,packR,Int.reduceLE,Int.reduceLT,Int.reduceEq,Int.cast_ofNat_Int,Int.reduceToNat,e]
          refine VD_pc ?_
          simp only [↓vS,cvF_pc,vP,shb,shv,shvs,she_nil,she_cons,vC,vQ,not_false_eq_true,Nat.reduceEqDiff,↓reduceIte,eq_self,Nat.reduceAdd,Nat.reduceMul,Nat.reduceSub,Nat.reduceLeDiff,Nat.reduceLT,defd,cellsOf,wr,packR,Int.reduceLE,Int.reduceLT,Int.reduceEq,Int.cast_ofNat_Int,Int.reduceToNat,hlt,hx,Nat.mul_one]
          refine (h7 r N[k] wd.act (by omega) hrn).pc ?_
          simp only [↓vS,cvF_pc,vP,shb,shv,shvs,she_nil,she_cons,vC,vQ,not_false_eq_true,Nat.reduceEqDiff,↓reduceIte,eq_self,Nat.reduceAdd,Nat.reduceMul,Nat.reduceSub,Nat.reduceLeDiff,Nat.reduceLT,defd,cellsOf,wr,packR,Int.reduceLE,Int.reduceLT,Int.reduceEq,Int.cast_ofNat_Int,Int.reduceToNat,hw,cList]
          refine ih2 (by omega) (by omega) _ _ (Wk.mk _ _ [0,1,2,3] ?_ ?_ ?_ rfl)
          · simp [vW,bw_map,mapAt_map,mapClo_it,mapClo_nil,mapClo_cons,vP,vZ,Tr.get_set]
          · simp [vW,bw_map,mapAt_map,mapClo_it,mapClo_nil,mapClo_cons,vP,vZ,Tr.get_set,cList,nvs_self,rN_clos,rC_clos,cWord,stepN,hh]
          · simp
        | false =>
          have hi:ins = true:=by rw [← hins,e,hh]; rfl
          subst hi
          simp (decide:=true) only [↓vS,cvF_pc,vP,shb,shv,shvs,she_nil,she_cons,vC,vQ,not_false_eq_true,Nat.reduceEqDiff,↓reduceIte,eq_self,Nat.reduceAdd,Nat.reduceMul,Nat.reduceSub,Nat.reduceLeDiff,Nat.reduceLT,defd,cellsOf,wr,packR,Int.reduceLE,Int.reduceLT,Int.reduceEq,Int.cast_ofNat_Int,Int.reduceToNat,e]
          refine VD_pc ?_
          simp only [↓vS,cvF_pc,vP,shb,shv,shvs,she_nil,she_cons,vC,vQ,not_false_eq_true,Nat.reduceEqDiff,↓reduceIte,eq_self,Nat.reduceAdd,Nat.reduceMul,Nat.reduceSub,Nat.reduceLeDiff,Nat.reduceLT,defd,cellsOf,wr,packR,Int.reduceLE,Int.reduceLT,Int.reduceEq,Int.cast_ofNat_Int,Int.reduceToNat,hlt,hx,Nat.mul_one]
          refine (h7 r N[k] wd.act (by omega) hrn).pc ?_
          simp only [↓vS,cvF_pc,vP,shb,shv,shvs,she_nil,she_cons,vC,vQ,not_false_eq_true,Nat.reduceEqDiff,↓reduceIte,eq_self,Nat.reduceAdd,Nat.reduceMul,Nat.reduceSub,Nat.reduceLeDiff,Nat.reduceLT,defd,cellsOf,wr,packR,Int.reduceLE,Int.reduceLT,Int.reduceEq,Int.cast_ofNat_Int,Int.reduceToNat,hw,cList]
          refine ih2 (by omega) (by omega) _ _ (Wk.mk _ _ [0,1,2,3] ?_ ?_ ?_ rfl)
          · simp [vW,bw_map,mapAt_map,mapClo_it,mapClo_nil,mapClo_cons,vP,vZ,Tr.get_set]
          · simp [vW,bw_map,mapAt_map,mapClo_it,mapClo_nil,mapClo_cons,vP,vZ,Tr.get_set,cList,nvs_self,rN_clos,rC_clos,cWord,stepN,hh]
          · simp
    · cases t with
      | true =>
        cases hh:wd.has with
        | true =>
          have hi:ins = true:=by rw [← hins,e,hh]; rfl
          subst hi
          simp (decide:=true) only [↓vS,cvF_pc,vP,shb,shv,shvs,she_nil,she_cons,vC,vQ,not_false_eq_true,Nat.reduceEqDiff,↓reduceIte,eq_self,Nat.reduceAdd,Nat.reduceMul,Nat.reduceSub,Nat.reduceLeDiff,Nat.reduceLT,defd,cellsOf,wr,packR,Int.reduceLE,Int.reduceLT,Int.reduceEq,Int.cast_ofNat_Int,Int.reduceToNat,e]
          refine VD_pc ?_
          simp only [↓vS,cvF_pc,vP,shb,shv,shvs,she_nil,she_cons,vC,vQ,not_false_eq_true,Nat.reduceEqDiff,↓reduceIte,eq_self,Nat.reduceAdd,Nat.reduceMul,Nat.reduceSub,Nat.reduceLeDiff,Nat.reduceLT,defd,cellsOf,wr,packR,Int.reduceLE,Int.reduceLT,Int.reduceEq,Int.cast_ofNat_Int,Int.reduceToNat,hlt,hx,Nat.mul_one]
          refine (h7 r N[k] wd.act (by omega) hrn).pc ?_
          simp only [↓vS,cvF_pc,vP,shb,shv,shvs,she_nil,she_cons,vC,vQ,not_false_eq_true,Nat.reduceEqDiff,↓reduceIte,eq_self,Nat.reduceAdd,Nat.reduceMul,Nat.reduceSub,Nat.reduceLeDiff,Nat.reduceLT,defd,cellsOf,wr,packR,Int.reduceLE,Int.reduceLT,Int.reduceEq,Int.cast_ofNat_Int,Int.reduceToNat,hw,cList]
          refine ih2 (by omega) (by omega) _ _ (Wk.mk _ _ [0,1,2,3] ?_ ?_ ?_ rfl)
          · simp [vW,bw_map,mapAt_map,mapClo_it,mapClo_nil,mapClo_cons,vP,vZ,Tr.get_set]
          · simp [vW,bw_map,mapAt_map,mapClo_it,mapClo_nil,mapClo_cons,vP,vZ,Tr.get_set,cList,nvs_self,rN_clos,rC_clos,cWord,stepN,hh]
          · simp
        | false =>
          have hi:ins = true:=by rw [← hins,e,hh]; rfl
          subst hi
          simp (decide:=true) only [↓vS,cvF_pc,vP,shb,shv,shvs,she_nil,she_cons,vC,vQ,not_false_eq_true,Nat.reduceEqDiff,↓reduceIte,eq_self,Nat.reduceAdd,Nat.reduceMul,Nat.reduceSub,Nat.reduceLeDiff,Nat.reduceLT,defd,cellsOf,wr,packR,Int.reduceLE,Int.reduceLT,Int.reduceEq,Int.cast_ofNat_Int,Int.reduceToNat,e]
          refine VD_pc ?_
          simp only [↓vS,cvF_pc,vP,shb,shv,shvs,she_nil,she_cons,vC,vQ,not_false_eq_true,Nat.reduceEqDiff,↓reduceIte,eq_self,Nat.reduceAdd,Nat.reduceMul,Nat.reduceSub,Nat.reduceLeDiff,Nat.reduceLT,defd,cellsOf,wr,packR,Int.reduceLE,Int.reduceLT,Int.reduceEq,Int.cast_ofNat_Int,Int.reduceToNat,hlt,hx,Nat.mul_one]
          refine (h7 r N[k] wd.act (by omega) hrn).pc ?_
          simp only [↓vS,cvF_pc,vP,shb,shv,shvs,she_nil,she_cons,vC,vQ,not_false_eq_true,Nat.reduceEqDiff,↓reduceIte,eq_self,Nat.reduceAdd,Nat.reduceMul,Nat.reduceSub,Nat.reduceLeDiff,Nat.reduceLT,defd,cellsOf,wr,packR,Int.reduceLE,Int.reduceLT,Int.reduceEq,Int.cast_ofNat_Int,Int.reduceToNat,hw,cList]
          refine ih2 (by omega) (by omega) _ _ (Wk.mk _ _ [0,1,2,3] ?_ ?_ ?_ rfl)
          · simp [vW,bw_map,mapAt_map,mapClo_it,mapClo_nil,mapClo_cons,vP,vZ,Tr.get_set]
          · simp [vW,bw_map,mapAt_map,mapClo_it,mapClo_nil,mapClo_cons,vP,vZ,Tr.get_set,cList,nvs_self,rN_clos,rC_clos,cWord,stepN,hh]
          · simp
      | false =>
        cases hh:wd.has with
        | true =>
          have hi:ins = false:=by rw [← hins,e,hh]; rfl
          subst hi
          simp (decide:=true) only [↓vS,cvF_pc,vP,shb,shv,shvs,she_nil,she_cons,vC,vQ,not_false_eq_true,Nat.reduceEqDiff,↓reduceIte,eq_self,Nat.reduceAdd,Nat.reduceMul,Nat.reduceSub,Nat.reduceLeDiff,Nat.reduceLT,defd,cellsOf,wr,packR,Int.reduceLE,Int.reduceLT,Int.reduceEq,Int.cast_ofNat_Int,Int.reduceToNat,e]
          refine VD_pc ?_
          simp only [↓vS,cvF_pc,vP,shb,shv,shvs,she_nil,she_cons,vC,vQ,not_false_eq_true,Nat.reduceEqDiff,↓reduceIte,eq_self,Nat.reduceAdd,Nat.reduceMul,Nat.reduceSub,Nat.reduceLeDiff,Nat.reduceLT,defd,cellsOf,wr,packR,Int.reduceLE,Int.reduceLT,Int.reduceEq,Int.cast_ofNat_Int,Int.reduceToNat,hlt,hx,Nat.mul_one]
          refine (take0_pure h8 r N[k] (by omega)).pc ?_
          simp only [↓vS,cvF_pc,vP,shb,shv,shvs,she_nil,she_cons,vC,vQ,not_false_eq_true,Nat.reduceEqDiff,↓reduceIte,eq_self,Nat.reduceAdd,Nat.reduceMul,Nat.reduceSub,Nat.reduceLeDiff,Nat.reduceLT,defd,cellsOf,wr,packR,Int.reduceLE,Int.reduceLT,Int.reduceEq,Int.cast_ofNat_Int,Int.reduceToNat,hw,cList]
          refine ih2 (by omega) (by omega) _ _ (Wk.mk _ _ [0,1,2,3] ?_ ?_ ?_ rfl)
          · simp [vW,bw_map,mapAt_map,mapClo_it,mapClo_nil,mapClo_cons,vP,vZ,Tr.get_set]
          · simp [vW,bw_map,mapAt_map,mapClo_it,mapClo_nil,mapClo_cons,vP,vZ,Tr.get_set,cList,nvs_self,rN_clos,rC_clos,cWord,stepN,htw,hh,e]
          · simp
        | false =>
          have hi:ins = false:=by rw [← hins,e,hh]; rfl
          subst hi
          simp (decide:=true) only [↓vS,cvF_pc,vP,shb,shv,shvs,she_nil,she_cons,vC,vQ,not_false_eq_true,Nat.reduceEqDiff,↓reduceIte,eq_self,Nat.reduceAdd,Nat.reduceMul,Nat.reduceSub,Nat.reduceLeDiff,Nat.reduceLT,defd,cellsOf,wr,packR,Int.reduceLE,Int.reduceLT,Int.reduceEq,Int.cast_ofNat_Int,Int.reduceToNat,e]
          refine VD_pc ?_
          simp only [↓vS,cvF_pc,vP,shb,shv,shvs,she_nil,she_cons,vC,vQ,not_false_eq_true,Nat.reduceEqDiff,↓reduceIte,eq_self,Nat.reduceAdd,Nat.reduceMul,Nat.reduceSub,Nat.reduceLeDiff,Nat.reduceLT,defd,cellsOf,wr,packR,Int.reduceLE,Int.reduceLT,Int.reduceEq,Int.cast_ofNat_Int,Int.reduceToNat,hlt,hx,Nat.mul_one]
          refine (take0_pure h8 r N[k] (by omega)).pc ?_
          simp only [↓vS,cvF_pc,vP,shb,shv,shvs,she_nil,she_cons,vC,vQ,not_false_eq_true,Nat.reduceEqDiff,↓reduceIte,eq_self,Nat.reduceAdd,Nat.reduceMul,Nat.reduceSub,Nat.reduceLeDiff,Nat.reduceLT,defd,cellsOf,wr,packR,Int.reduceLE,Int.reduceLT,Int.reduceEq,Int.cast_ofNat_Int,Int.reduceToNat,hw,cList]
          refine ih2 (by omega) (by omega) _ _ (Wk.mk _ _ [0,1,2,3] ?_ ?_ ?_ rfl)
          · simp [vW,bw_map,mapAt_map,mapClo_it,mapClo_nil,mapClo_cons,vP,vZ,Tr.get_set]
          · simp [vW,bw_map,mapAt_map,mapClo_it,mapClo_nil,mapClo_cons,vP,vZ,Tr.get_set,cList,nvs_self,rN_clos,rC_clos,cWord,stepN,htw,hh,e]
          · simp
  · have hkl:N.take k = N:=List.take_of_length_le (by omega)
    rw [hkl] at hr
    rw [hr] at hQ
    simp only [cList,cWord]
    simp only [↓vS,cvF_pc,vP,shb,shv,shvs,she_nil,she_cons,vC,vQ,not_false_eq_true,Nat.reduceEqDiff,↓reduceIte,eq_self,Nat.reduceAdd,Nat.reduceMul,Nat.reduceSub,Nat.reduceLeDiff,Nat.reduceLT,defd,cellsOf,wr,packR,Int.reduceLE,Int.reduceLT,Int.reduceEq,Int.cast_ofNat_Int,Int.reduceToNat,hlt]
    refine hQ _ _ (Wk.mk _ _ [0,1,2] ?_ ?_ ?_ rfl)
    · simp [vW,bw_map,mapAt_map,mapClo_it,mapClo_nil,mapClo_cons,vP,vZ,Tr.get_set]
    · simp [vW,bw_map,mapAt_map,mapClo_it,mapClo_nil,mapClo_cons,vP,vZ,Tr.get_set,cList,nvs_self,rN_clos,rC_clos]
    · simp
theorem step16_up {g1 g2 g3 g4 g5 g6 g7 g8:Nat} (fl t:Bool) (W:List (List UInt8)) (j:Nat) (hj:j < 100000) (l:GList) (ns:List GNote) (Q:X → Tr AV → Hp → Prop)
    (hQ:∀ t' h',Wk 0 t' h' (mkT [(2,.b fl),(3,.ptr 0 0),(6,.ptr 1 0),(9,.b t),(10,.own 2 ns.length),(11,.fz W.length (rS W)),(12,.i .i64 (j + 1:Nat))]) (mkH 0 [.cells 0 true false (cList l),.cells 0 true false [.i .u8 0,.nils],.cells 4 true true (rN ns)]) → Q .normal t' h') :
    S P 0 (ir_vestibuleref16_Step_c44 g1 g2 g3 g4 g5 g6 g7 g8) Q (mkT [(2,.b fl),(3,.ptr 0 0),(6,.ptr 1 0),(9,.b t),(10,.own 2 ns.length),(11,.fz W.length (rS W)),(12,.i .i64 j)]) (mkH 0 [.cells 0 true false (cList l),.cells 0 true false [.i .u8 0,.nils],.cells 4 true true (rN ns)]):=by
  have hw:IntKind.wrap .i64 ((j:Int) + 1) = ((j + 1:Nat):Int):=by rw [wrap64 (by omega) (by omega)]; omega
  refine V_sound ?_
  simp only [ir_vestibuleref16_Step_c44,cList,argsT,H0,mkT,mkH,trL,List.length_cons,List.length_nil,Nat.reduceAdd,Nat.zero_add]
  simp only [↓vS,cvF_pc,vP,shb,shv,shvs,she_nil,she_cons,vC,vQ,not_false_eq_true,Nat.reduceEqDiff,↓reduceIte,eq_self,Nat.reduceAdd,Nat.reduceMul,Nat.reduceSub,Nat.reduceLeDiff,Nat.reduceLT,defd,cellsOf,wr,packR,Int.reduceLE,Int.reduceLT,Int.reduceEq,Int.cast_ofNat_Int,Int.reduceToNat,hw]
  refine hQ _ _ (Wk.mk _ _ [0,1,2] ?_ ?_ ?_ rfl)
  · simp [vW,bw_map,mapAt_map,mapClo_it,mapClo_nil,mapClo_cons,vP,vZ,Tr.get_set]
  · simp [vW,bw_map,mapAt_map,mapClo_it,mapClo_nil,mapClo_cons,vP,vZ,Tr.get_set,cList,nvs_self,rN_clos,rC_clos]
  · simp
theorem step16_97 {g1 g2 g3 g4 g5 g6 g7 g8:Nat} (h7:cPutR P g7) (h8:cTake0 P g8) (fl t:Bool) (W N:List (List UInt8)) (j:Nat) (l:GList) (wd:Word) (w:List UInt8) (ns:List GNote) (hW:W.length ≤ 1000) (hN:N.length ≤ 1000) (hns:ns.length ≤ 100000)
    (hl:mayM l = true) (hm:l.mode = 1 ∨ l.mode = 2) (hk:∀ n ∈ N,knownM n = true) (ha:actM wd.act = true) (s':GList × List GNote)
    (hs:s' = if wd.has = true ∧ (fl = false ∨ t = false) then (N.foldl (stepN (insB l.mode t false) 0) l,ns ++ [noteW 161 w]) else (N.foldl (stepN (insB l.mode t wd.has) wd.act) l,ns)) (Q:X → Tr AV → Hp → Prop)
    (hQ:∀ t' h',Wk 0 t' h' (mkT [(2,.b fl),(3,.ptr 0 0),(6,.ptr 1 0),(9,.b t),(10,.own 2 s'.2.length),(11,.fz W.length (rS W)),(12,.i .i64 j)]) (mkH 0 [.cells 0 true false (cList s'.1),.cells 0 true false [.i .u8 0,.nils],.cells 4 true true (rN s'.2)]) → Q .normal t' h') :
    S P 0 (ir_vestibuleref16_Step_c97 g1 g2 g3 g4 g5 g6 g7 g8) Q
      (mkT [(2,.b fl),(3,.ptr 0 0),(6,.ptr 1 0),(9,.b t),(10,.own 2 ns.length),(11,.fz W.length (rS W)),(12,.i .i64 j),(13,.s (w.take 60)),(14,.ptr 3 0),(16,.fz N.length (rS N))]) (mkH 0 [.cells 0 true false (cList l),.cells 0 true false [.i .u8 0,.nils],.cells 4 true true (rN ns),.cells 0 true false (cWord wd)]):=by
  refine V_sound ?_
  simp only [ir_vestibuleref16_Step_c97,cList,cWord,argsT,H0,mkT,mkH,trL,List.length_cons,List.length_nil,Nat.reduceAdd,Nat.zero_add]
  have hr1:ns.length + 1 ≤ roomB:=by simp only [roomB]; omega
  have hr2:(ns.length + 1) * 48 ≤ roomB:=by simp only [roomB]; omega
  have hap:rN ns ++ [AV.s [],.i .i64 0,.i .i64 161,.s (w.take 60)] = rN (ns ++ [noteW 161 w]):=by rw [← rN_app]; rfl
  cases hh:wd.has with
  | false =>
    rw [if_neg (by simp [hh])] at hs
    subst hs
    simp only [↓vS,cvF_pc,vP,shb,shv,shvs,she_nil,she_cons,vC,vQ,not_false_eq_true,Nat.reduceEqDiff,↓reduceIte,eq_self,Nat.reduceAdd,Nat.reduceMul,Nat.reduceSub,Nat.reduceLeDiff,Nat.reduceLT,defd,cellsOf,wr,packR,Int.reduceLE,Int.reduceLT,Int.reduceEq,Int.cast_ofNat_Int,Int.reduceToNat]
    refine S.weak (Wk.mk _ _ [0,1,2,3] ?_ ?_ ?_ rfl) (step16_in h7 h8 fl t W N j l wd ns hW hN hl hm hk ha Q hQ)
    · simp [vW,bw_map,mapAt_map,mapClo_it,mapClo_nil,mapClo_cons,vP,vZ,Tr.get_set]
    · simp [vW,bw_map,mapAt_map,mapClo_it,mapClo_nil,mapClo_cons,vP,vZ,Tr.get_set,cList,nvs_self,rN_clos,rC_clos,cWord,hh]
    · simp
  | true =>
    by_cases hft:fl = false ∨ t = false
    · rw [if_pos ⟨hh,hft⟩] at hs
      subst hs
      have go:S P 0 (ir_vestibuleref16_Step_c17 g1 g2 g3 g4 g5 g6 g7 g8) Q (mkT [(2,.b fl),(3,.ptr 0 0),(6,.ptr 1 0),(9,.b t),(10,.own 2 (ns ++ [noteW 161 w]).length),(11,.fz W.length (rS W)),(12,.i .i64 j),(14,.ptr 3 0),(16,.fz N.length (rS N))])
        (mkH 0 [.cells 0 true false (cList l),.cells 0 true false [.i .u8 0,.nils],.cells 4 true true (rN (ns ++ [noteW 161 w])),.cells 0 true false (cWord ⟨wd.name,0,false⟩)]):=step16_in h7 h8 fl t W N j l ⟨wd.name,0,false⟩ (ns ++ [noteW 161 w]) hW hN hl hm hk rfl Q hQ
      cases fl with
      | false =>
        simp (decide:=true) only [↓vS,cvF_pc,vP,shb,shv,shvs,she_nil,she_cons,vC,vQ,not_false_eq_true,Nat.reduceEqDiff,↓reduceIte,eq_self,Nat.reduceAdd,Nat.reduceMul,Nat.reduceSub,Nat.reduceLeDiff,Nat.reduceLT,defd,cellsOf,wr,packR,Int.reduceLE,Int.reduceLT,Int.reduceEq,Int.cast_ofNat_Int,Int.reduceToNat,hr1,hr2,rN_len,hap]
        refine S.weak (Wk.mk _ _ [0,1,5,3] ?_ ?_ ?_ rfl) go
        · simp [vW,bw_map,mapAt_map,mapClo_it,mapClo_nil,mapClo_cons,vP,vZ,Tr.get_set]
        · simp [vW,bw_map,mapAt_map,mapClo_it,mapClo_nil,mapClo_cons,vP,vZ,Tr.get_set,cList,nvs_self,rN_clos,rC_clos,cWord]
        · simp
      | true =>
        have ht:t = false:=by rcases hft with h | h; cases h; exact h
        subst ht
        simp (decide:=true) only [↓vS,cvF_pc,vP,shb,shv,shvs,she_nil,she_cons,vC,vQ,not_false_eq_true,Nat.reduceEqDiff,↓reduceIte,eq_self,Nat.reduceAdd,Nat.reduceMul,Nat.reduceSub,Nat.reduceLeDiff,Nat.reduceLT,defd,cellsOf,wr,packR,Int.reduceLE,Int.reduceLT,Int.reduceEq,Int.cast_ofNat_Int,Int.reduceToNat,hr1,hr2,rN_len,hap]
        refine S.weak (Wk.mk _ _ [0,1,5,3] ?_ ?_ ?_ rfl) go
        · simp [vW,bw_map,mapAt_map,mapClo_it,mapClo_nil,mapClo_cons,vP,vZ,Tr.get_set]
        · simp [vW,bw_map,mapAt_map,mapClo_it,mapClo_nil,mapClo_cons,vP,vZ,Tr.get_set,cList,nvs_self,rN_clos,rC_clos,cWord]
        · simp
    · rw [if_neg (by simp [hft])] at hs
      subst hs
      have hf:fl = true:=by cases fl <;> simp_all
      have ht:t = true:=by cases t <;> simp_all
      subst hf ht
      simp only [↓vS,cvF_pc,vP,shb,shv,shvs,she_nil,she_cons,vC,vQ,not_false_eq_true,Nat.reduceEqDiff,↓reduceIte,eq_self,Nat.reduceAdd,Nat.reduceMul,Nat.reduceSub,Nat.reduceLeDiff,Nat.reduceLT,defd,cellsOf,wr,packR,Int.reduceLE,Int.reduceLT,Int.reduceEq,Int.cast_ofNat_Int,Int.reduceToNat]
      refine S.weak (Wk.mk _ _ [0,1,2,3] ?_ ?_ ?_ rfl) (step16_in h7 h8 true true W N j l wd ns hW hN hl hm hk ha Q hQ)
      · simp [vW,bw_map,mapAt_map,mapClo_it,mapClo_nil,mapClo_cons,vP,vZ,Tr.get_set]
      · simp [vW,bw_map,mapAt_map,mapClo_it,mapClo_nil,mapClo_cons,vP,vZ,Tr.get_set,cList,nvs_self,rN_clos,rC_clos,cWord,hh]
      · simp
theorem step16_89 {g1 g2 g3 g4 g5 g6 g7 g8:Nat} (h7:cPutR P g7) (h8:cTake0 P g8) (fl t:Bool) (W N:List (List UInt8)) (j:Nat) (l:GList) (wd:Word) (w:List UInt8) (e:Int) (ns:List GNote) (hW:W.length ≤ 1000) (hN:N.length ≤ 1000) (hns:ns.length ≤ 100000)
    (hl:mayM l = true) (hm:l.mode = 1 ∨ l.mode = 2) (hk:∀ n ∈ N,knownM n = true) (ha:actM wd.act = true) (s':GList × List GNote)
    (hs:s' = if e ≠ 0 then (l,ns ++ [noteW e w]) else if wd.has = true ∧ (fl = false ∨ t = false) then (N.foldl (stepN (insB l.mode t false) 0) l,ns ++ [noteW 161 w]) else (N.foldl (stepN (insB l.mode t wd.has) wd.act) l,ns)) (Q:X → Tr AV → Hp → Prop)
    (hQ:∀ t' h',Wk 0 t' h' (mkT [(2,.b fl),(3,.ptr 0 0),(6,.ptr 1 0),(9,.b t),(10,.own 2 s'.2.length),(11,.fz W.length (rS W)),(12,.i .i64 j)]) (mkH 0 [.cells 0 true false (cList s'.1),.cells 0 true false [.i .u8 0,.nils],.cells 4 true true (rN s'.2)]) → Q .normal t' h' ∧ Q (.exit 1) t' h') :
    S P 0 (ir_vestibuleref16_Step_c89 g1 g2 g3 g4 g5 g6 g7 g8) Q
      (mkT [(2,.b fl),(3,.ptr 0 0),(6,.ptr 1 0),(9,.b t),(10,.own 2 ns.length),(11,.fz W.length (rS W)),(12,.i .i64 j),(13,.s (w.take 60)),(14,.ptr 3 0),(15,.i .i64 e),(16,.fz N.length (rS N))]) (mkH 0 [.cells 0 true false (cList l),.cells 0 true false [.i .u8 0,.nils],.cells 4 true true (rN ns),.cells 0 true false (cWord wd)]):=by
  refine V_sound ?_
  simp only [ir_vestibuleref16_Step_c89,cList,cWord,argsT,H0,mkT,mkH,trL,List.length_cons,List.length_nil,Nat.reduceAdd,Nat.zero_add]
  have hr1:ns.length + 1 ≤ roomB:=by simp only [roomB]; omega
  have hr2:(ns.length + 1) * 48 ≤ roomB:=by simp only [roomB]; omega
  have hap:rN ns ++ [AV.s [],.i .i64 0,.i .i64 e,.s (w.take 60)] = rN (ns ++ [noteW e w]):=by rw [← rN_app]; rfl
  by_cases he:e = 0
  · rw [if_neg (by simp [he])] at hs
    simp only [↓vS,cvF_pc,vP,shb,shv,shvs,she_nil,she_cons,vC,vQ,not_false_eq_true,Nat.reduceEqDiff,↓reduceIte,eq_self,Nat.reduceAdd,Nat.reduceMul,Nat.reduceSub,Nat.reduceLeDiff,Nat.reduceLT,defd,cellsOf,wr,packR,Int.reduceLE,Int.reduceLT,Int.reduceEq,Int.cast_ofNat_Int,Int.reduceToNat,he]
    refine S.weak (Wk.mk _ _ [0,1,2,3] ?_ ?_ ?_ rfl) (step16_97 h7 h8 fl t W N j l wd w ns hW hN hns hl hm hk ha s' hs _ (fun t' h' hw=>(hQ t' h' hw).1))
    · simp [vW,bw_map,mapAt_map,mapClo_it,mapClo_nil,mapClo_cons,vP,vZ,Tr.get_set]
    · simp [vW,bw_map,mapAt_map,mapClo_it,mapClo_nil,mapClo_cons,vP,vZ,Tr.get_set,cList,nvs_self,rN_clos,rC_clos,cWord]
    · simp
  · rw [if_pos he] at hs
    subst hs
    simp (decide:=true) only [↓vS,cvF_pc,vP,shb,shv,shvs,she_nil,she_cons,vC,vQ,not_false_eq_true,Nat.reduceEqDiff,↓reduceIte,eq_self,Nat.reduceAdd,Nat.reduceMul,Nat.reduceSub,Nat.reduceLeDiff,Nat.reduceLT,defd,cellsOf,wr,packR,Int.reduceLE,Int.reduceLT,Int.reduceEq,Int.cast_ofNat_Int,Int.reduceToNat,he,hr1,hr2,rN_len,hap]
    refine (hQ _ _ (Wk.mk _ _ [0,1,5] ?_ ?_ ?_ rfl)).2
    · simp [vW,bw_map,mapAt_map,mapClo_it,mapClo_nil,mapClo_cons,vP,vZ,Tr.get_set]
    · simp [vW,bw_map,mapAt_map,mapClo_it,mapClo_nil,mapClo_cons,vP,vZ,Tr.get_set,cList,nvs_self,rN_clos,rC_clos]
    · simp
end Go.Kc
end
section
/- What the document makes of a list by a value, whole; and by values. Condition: the functions' texts are these. -/
namespace Go.Kc
variable {P:Program} {f:Nat}
theorem insB_false {m:Int} (hm:m = 1 ∨ m = 2) (t:Bool):insB m t false = decide (m - 1 = if t = true then 1 else 0):=by
  rcases hm with rfl | rfl <;> cases t <;> rfl
theorem insB_true {m:Int} (hm:m = 1 ∨ m = 2):insB m true true = true:=by
  rcases hm with rfl | rfl <;> rfl
theorem stepW_alt (E:List UInt8 → List (List UInt8) × Int) (fl t:Bool) {l:GList} (hm:l.mode = 1 ∨ l.mode = 2) (ns:List GNote) (w:List UInt8) (h1:(readM w).2 = 0) :
    stepW E fl t (l,ns) w = if (memM E (readM w).1.name).2 ≠ 0 then (l,ns ++ [noteW (memM E (readM w).1.name).2 w])
      else if (readM w).1.has = true ∧ (fl = false ∨ t = false) then ((memM E (readM w).1.name).1.foldl (stepN (insB l.mode t false) 0) l,ns ++ [noteW 161 w]) else ((memM E (readM w).1.name).1.foldl (stepN (insB l.mode t (readM w).1.has) (readM w).1.act) l,ns):=by
  unfold stepW
  rw [if_neg (by simp [h1])]
  by_cases h2:(memM E (readM w).1.name).2 ≠ 0
  · rw [if_pos h2,if_pos h2]
  rw [if_neg h2,if_neg h2]
  cases hh:(readM w).1.has with
  | false=>simp only [Bool.false_eq_true,false_and,if_false,if_true,insB_false hm]
  | true =>
    simp only [Bool.true_eq_false,if_false,true_and]
    by_cases hft:fl = false ∨ t = false
    · simp only [if_pos hft,insB_false hm]
    · have ht:t = true:=by cases t <;> simp_all
      rw [if_neg hft,if_neg hft,ht,insB_true hm]
theorem readM_name {w:List UInt8} (h:(readM w).2 = 0):(readM w).1.name ≠ []:=by
  unfold readM at h ⊢
  by_cases h1:(cutM w).1 = []
  · rw [if_pos h1] at h; cases h
  rw [if_neg h1] at h ⊢
  split
  · exact h1
  · rename_i h2
    rw [if_neg h2] at h
    split
    · exact h1
    · rename_i h3
      rw [if_neg h3] at h
      split
      · exact h1
      · rename_i h4; rw [if_neg h4] at h; exact absurd h h4
theorem step16_56 {g1 g2 g3 g4 g5 g6 g7 g8:Nat} {E:List UInt8 → List (List UInt8) × Int} (hE:ExpOk E) (h4:cRead P g4) (h5:cExp E P g5) (h6:∀ s,Pure P g6 [.s s] (.b (knownM s))) (h7:cPutR P g7) (h8:cTake0 P g8) (fl t:Bool) (W:List (List UInt8)) (j:Nat) (l:GList) (w:List UInt8) (ns:List GNote) (hW:W.length ≤ 1000) (hns:ns.length ≤ 100000)
    (hjW:j < W.length) (hx:(rS W)[j]? = some (.s w)) (hwl:w.length ≤ 1000000) (hl:mayM l = true) (hm:l.mode = 1 ∨ l.mode = 2) (s':GList × List GNote) (hs:s' = stepW E fl t (l,ns) w) (Q:X → Tr AV → Hp → Prop)
    (hQ:∀ t' h',Wk 0 t' h' (mkT [(2,.b fl),(3,.ptr 0 0),(6,.ptr 1 0),(9,.b t),(10,.own 2 s'.2.length),(11,.fz W.length (rS W)),(12,.i .i64 j)]) (mkH 0 [.cells 0 true false (cList s'.1),.cells 0 true false [.i .u8 0,.nils],.cells 4 true true (rN s'.2)]) → Q .normal t' h' ∧ Q (.exit 1) t' h') :
    S P 0 (ir_vestibuleref16_Step_c56 g1 g2 g3 g4 g5 g6 g7 g8) Q (mkT [(2,.b fl),(3,.ptr 0 0),(6,.ptr 1 0),(9,.b t),(10,.own 2 ns.length),(11,.fz W.length (rS W)),(12,.i .i64 j),(13,.s (w.take 60))]) (mkH 0 [.cells 0 true false (cList l),.cells 0 true false [.i .u8 0,.nils],.cells 4 true true (rN ns)]):=by
  have hmem:=memM_ok hE (readM w).1.name
  refine V_sound ?_
  simp only [ir_vestibuleref16_Step_c56,cList,argsT,H0,mkT,mkH,trL,List.length_cons,List.length_nil,Nat.reduceAdd,Nat.zero_add]
  simp only [↓vS,cvF_pc,vP,shb,shv,shvs,she_nil,she_cons,vC,vQ,not_false_eq_true,Nat.reduceEqDiff,↓reduceIte,eq_self,Nat.reduceAdd,Nat.reduceMul,Nat.reduceSub,Nat.reduceLeDiff,Nat.reduceLT,defd,cellsOf,wr,packR,Int.reduceLE,Int.reduceLT,Int.reduceEq,Int.cast_ofNat_Int,Int.reduceToNat,hjW,hx,Nat.mul_one]
  refine (h4 w hwl).sc ?_
  by_cases e1:(readM w).2 = 0
  · rw [stepW_alt E fl t hm ns w e1] at hs
    have hnn:=readM_name e1
    have h1:0 < (readM w).1.name.length:=List.length_pos_iff.2 hnn
    obtain ⟨c,cs,hcs⟩:∃ c cs,(readM w).1.name = c :: cs:=List.exists_cons_of_ne_nil hnn
    have hx0:(readM w).1.name[0]? = some c:=by rw [hcs]; rfl
    by_cases hc:(c.toNat:Int) = 64
    · have hc':c = 64:=by rw [← UInt8.toNat_inj]; have:=hc; simp at this ⊢; omega
      have hmm:memM E (readM w).1.name = E (readM w).1.name:=by unfold memM; rw [if_pos (by rw [hcs,hc']; rfl)]
      rw [hmm] at hs hmem
      simp only [↓vS,cvF_pc,vP,shb,shv,shvs,she_nil,she_cons,vC,vQ,not_false_eq_true,Nat.reduceEqDiff,↓reduceIte,eq_self,Nat.reduceAdd,Nat.reduceMul,Nat.reduceSub,Nat.reduceLeDiff,Nat.reduceLT,defd,cellsOf,wr,packR,Int.reduceLE,Int.reduceLT,Int.reduceEq,Int.cast_ofNat_Int,Int.reduceToNat,e1,cWord,h1,hx0,hc]
      refine (h5 (readM w).1.name).sc ?_
      simp only [↓vS,cvF_pc,vP,shb,shv,shvs,she_nil,she_cons,vC,vQ,not_false_eq_true,Nat.reduceEqDiff,↓reduceIte,eq_self,Nat.reduceAdd,Nat.reduceMul,Nat.reduceSub,Nat.reduceLeDiff,Nat.reduceLT,defd,cellsOf,wr,packR,Int.reduceLE,Int.reduceLT,Int.reduceEq,Int.cast_ofNat_Int,Int.reduceToNat]
      refine S.weak (Wk.mk _ _ [0,1,2,3] ?_ ?_ ?_ rfl) (step16_89 h7 h8 fl t W (E (readM w).1.name).1 j l (readM w).1 w (E (readM w).1.name).2 ns hW (by omega) hns hl hm hmem.1 (readM_act w) s' hs _ hQ)
      · simp [vW,bw_map,mapAt_map,mapClo_it,mapClo_nil,mapClo_cons,vP,vZ,Tr.get_set]
      · simp [vW,bw_map,mapAt_map,mapClo_it,mapClo_nil,mapClo_cons,vP,vZ,Tr.get_set,cList,nvs_self,rN_clos,rC_clos,cWord]
      · simp
    · have hc':¬ [64].isPrefixOf (readM w).1.name = true:=by
        rw [hcs]; intro h
        simp [List.isPrefixOf] at h
        exact hc (by rw [← h]; rfl)
      simp only [↓vS,cvF_pc,vP,shb,shv,shvs,she_nil,she_cons,vC,vQ,not_false_eq_true,Nat.reduceEqDiff,↓reduceIte,eq_self,Nat.reduceAdd,Nat.reduceMul,Nat.reduceSub,Nat.reduceLeDiff,Nat.reduceLT,defd,cellsOf,wr,packR,Int.reduceLE,Int.reduceLT,Int.reduceEq,Int.cast_ofNat_Int,Int.reduceToNat,e1,cWord,h1,hx0,hc]
      refine (h6 (readM w).1.name).sc ?_
      cases hk:knownM (readM w).1.name with
      | true =>
        have hmm:memM E (readM w).1.name = ([(readM w).1.name],0):=by unfold memM; rw [if_neg hc',if_pos hk]
        rw [hmm] at hs hmem
        simp only [↓vS,cvF_pc,vP,shb,shv,shvs,she_nil,she_cons,vC,vQ,not_false_eq_true,Nat.reduceEqDiff,↓reduceIte,eq_self,Nat.reduceAdd,Nat.reduceMul,Nat.reduceSub,Nat.reduceLeDiff,Nat.reduceLT,defd,cellsOf,wr,packR,Int.reduceLE,Int.reduceLT,Int.reduceEq,Int.cast_ofNat_Int,Int.reduceToNat]
        refine S.weak (Wk.mk [(2,.b fl),(3,.ptr 0 0),(6,.ptr 1 0),(9,.b t),(10,.own 2 ns.length),(11,.fz W.length (rS W)),(12,.i .i64 j),(13,.s (w.take 60)),(14,.ptr 3 0),(15,.i .i64 0),(16,.sl 4 0 1 1 false)] [.cells 0 true false (cList l),.cells 0 true false [.i .u8 0,.nils],.cells 4 true true (rN ns),.cells 0 true false (cWord (readM w).1),.cells 0 true false [.s (readM w).1.name]] [0,1,2,3,4] ?_ ?_ ?_ rfl) ?_
        · simp [vW,bw_map,mapAt_map,mapClo_it,mapClo_nil,mapClo_cons,vP,vZ,Tr.get_set]
        · simp [vW,bw_map,mapAt_map,mapClo_it,mapClo_nil,mapClo_cons,vP,vZ,Tr.get_set,cList,nvs_self,rN_clos,rC_clos,cWord]
        · simp
        refine S.weak (Wk.freeze 4 1 0 rfl rfl (Nat.zero_le _) (by simp)) ?_
        refine S.weak (Wk.mk _ _ [0,1,2,3] ?_ ?_ ?_ rfl) (step16_89 h7 h8 fl t W [(readM w).1.name] j l (readM w).1 w 0 ns hW (by simp) hns hl hm hmem.1 (readM_act w) s' hs _ hQ)
        · simp [vW,bw_map,mapAt_map,mapClo_it,mapClo_nil,mapClo_cons,vP,vZ,Tr.get_set,mkT,fzv,fzvs,rS]
        · simp [vW,bw_map,mapAt_map,mapClo_it,mapClo_nil,mapClo_cons,vP,vZ,Tr.get_set,mkH,trL,fzB,fzvs,fzv,cList,nvs_self,rN_clos,rC_clos,cWord,fzvs_clo rN_clos]
        · simp [mkH]
      | false =>
        have hmm:memM E (readM w).1.name = ([],90):=by unfold memM; rw [if_neg hc',if_neg (by simp [hk])]
        rw [hmm] at hs hmem
        simp only [↓vS,cvF_pc,vP,shb,shv,shvs,she_nil,she_cons,vC,vQ,not_false_eq_true,Nat.reduceEqDiff,↓reduceIte,eq_self,Nat.reduceAdd,Nat.reduceMul,Nat.reduceSub,Nat.reduceLeDiff,Nat.reduceLT,defd,cellsOf,wr,packR,Int.reduceLE,Int.reduceLT,Int.reduceEq,Int.cast_ofNat_Int,Int.reduceToNat,e1]
        refine S.weak (Wk.mk _ _ [0,1,2,3] ?_ ?_ ?_ rfl) (step16_89 h7 h8 fl t W [] j l (readM w).1 w 90 ns hW (by simp) hns hl hm hmem.1 (readM_act w) s' hs _ hQ)
        · simp [vW,bw_map,mapAt_map,mapClo_it,mapClo_nil,mapClo_cons,vP,vZ,Tr.get_set,rS]
        · simp [vW,bw_map,mapAt_map,mapClo_it,mapClo_nil,mapClo_cons,vP,vZ,Tr.get_set,cList,nvs_self,rN_clos,rC_clos,cWord]
        · simp
  · have hs2:s' = (l,ns ++ [noteW (readM w).2 w]):=by rw [hs]; unfold stepW; rw [if_pos e1]
    simp only [↓vS,cvF_pc,vP,shb,shv,shvs,she_nil,she_cons,vC,vQ,not_false_eq_true,Nat.reduceEqDiff,↓reduceIte,eq_self,Nat.reduceAdd,Nat.reduceMul,Nat.reduceSub,Nat.reduceLeDiff,Nat.reduceLT,defd,cellsOf,wr,packR,Int.reduceLE,Int.reduceLT,Int.reduceEq,Int.cast_ofNat_Int,Int.reduceToNat,e1,cWord]
    refine S.weak (Wk.mk _ _ [0,1,2,3] ?_ ?_ ?_ rfl) (step16_89 h7 h8 fl t W [] j l (readM w).1 w (readM w).2 ns hW (by simp) hns hl hm (by simp) (readM_act w) s' (by rw [if_pos e1]; exact hs2) _ hQ)
    · simp [vW,bw_map,mapAt_map,mapClo_it,mapClo_nil,mapClo_cons,vP,vZ,Tr.get_set,rS]
    · simp [vW,bw_map,mapAt_map,mapClo_it,mapClo_nil,mapClo_cons,vP,vZ,Tr.get_set,cList,nvs_self,rN_clos,rC_clos,cWord]
    · simp
theorem step16_7 {g1 g2 g3 g4 g5 g6 g7 g8:Nat} {E:List UInt8 → List (List UInt8) × Int} (hE:ExpOk E) (h4:cRead P g4) (h5:cExp E P g5) (h6:∀ s,Pure P g6 [.s s] (.b (knownM s))) (h7:cPutR P g7) (h8:cTake0 P g8) (fl t:Bool) (v:List UInt8) (hv:v.length ≤ 1000) (l:GList) (hl:mayM l = true) (hm:l.mode = 1 ∨ l.mode = 2) :
    S P 0 (ir_vestibuleref16_Step_c7 g1 g2 g3 g4 g5 g6 g7 g8) (endX [.cell 6 2 true,.tmp 7] fun v' h'=>Frz h' v' (.tup [.agg (cList ((words v).foldl (stepW E fl t) (l,[])).1),.fz ((words v).foldl (stepW E fl t) (l,[])).2.length (rN ((words v).foldl (stepW E fl t) (l,[])).2)]))
      (mkT [(2,.b fl),(3,.ptr 0 0),(6,.ptr 1 0),(9,.b t),(10,.own 2 0),(11,.fz (words v).length (rS (words v)))]) (mkH 0 [.cells 0 true false (cList l),.cells 0 true false [.i .u8 0,.nils],.cells 4 true true []]):=by
  have hwl:=words_len v
  refine V_sound ?_
  simp only [ir_vestibuleref16_Step_c7,cList,argsT,H0,mkT,mkH,trL,List.length_cons,List.length_nil,Nat.reduceAdd,Nat.zero_add]
  simp only [↓vS,cvF_pc,vP,shb,shv,shvs,she_nil,she_cons,vC,vQ,not_false_eq_true,Nat.reduceEqDiff,↓reduceIte,eq_self,Nat.reduceAdd,Nat.reduceMul,Nat.reduceSub,Nat.reduceLeDiff,Nat.reduceLT,defd,cellsOf,wr,packR,Int.reduceLE,Int.reduceLT,Int.reduceEq,Int.cast_ofNat_Int,Int.reduceToNat]
  refine SL.loop (α:=Nat) (fun j=>[(2,.b fl),(3,.ptr 0 0),(6,.ptr 1 0),(9,.b t),(10,.own 2 (((words v).take j).foldl (stepW E fl t) (l,[])).2.length),(11,.fz (words v).length (rS (words v))),(12,.i .i64 j)])
    (fun j=>[.cells 0 true false (cList (((words v).take j).foldl (stepW E fl t) (l,[])).1),.cells 0 true false [.i .u8 0,.nils],.cells 4 true true (rN (((words v).take j).foldl (stepW E fl t) (l,[])).2)])
    (fun j=>j ≤ (words v).length) (fun j=>(words v).length - j) 0 [0,1,2] ?_ ?_ ?_ rfl ?_ ?_
  · simp [vW,bw_map,mapAt_map,mapClo_it,mapClo_nil,mapClo_cons,vP,vZ,Tr.get_set,rS_clos]
  · simp [vW,bw_map,mapAt_map,mapClo_it,mapClo_nil,mapClo_cons,vP,vZ,Tr.get_set,cList,nvs_self,rN_clos,rC_clos,rN_nil]
  · simp
  · exact Nat.zero_le _
  rintro j hj G ih
  obtain ⟨k1,k2,k3⟩:=stepWs_may hE fl t ((words v).take j) (l,[]) hl (by dsimp only; omega)
  have k4:=may_len k1
  dsimp only at k2
  simp only [List.length_take,List.length_nil,Nat.zero_add] at k3
  by_cases hlt:j < (words v).length
  · have hx:(rS (words v))[j]? = some (.s (words v)[j]):=by rw [rS_get,List.getElem?_eq_getElem hlt]; rfl
    have hnext:((words v).take (j + 1)).foldl (stepW E fl t) (l,[]) = stepW E fl t (((words v).take j).foldl (stepW E fl t) (l,[])) (words v)[j]:=by
      rw [List.take_add_one,List.getElem?_eq_getElem hlt,List.foldl_append]; rfl
    have ih2:=ih (j + 1)
    rw [hnext] at ih2
    generalize hr:((words v).take j).foldl (stepW E fl t) (l,[]) = r at k1 k2 k3 k4 ih ih2 ⊢
    have hwd:=words_word (List.getElem_mem hlt)
    generalize (words v)[j] = w at hx hwd ih2
    obtain ⟨rl,rn⟩:=r
    dsimp only at k1 k2 k3 k4 ih2 ⊢
    have go:∀ (Q:X → Tr AV → Hp → Prop),(∀ t' h',Wk 0 t' h' (mkT [(2,.b fl),(3,.ptr 0 0),(6,.ptr 1 0),(9,.b t),(10,.own 2 (stepW E fl t (rl,rn) w).2.length),(11,.fz (words v).length (rS (words v))),(12,.i .i64 j)]) (mkH 0 [.cells 0 true false (cList (stepW E fl t (rl,rn) w).1),.cells 0 true false [.i .u8 0,.nils],.cells 4 true true (rN (stepW E fl t (rl,rn) w).2)]) → Q .normal t' h' ∧ Q (.exit 1) t' h') →
        S P 0 (ir_vestibuleref16_Step_c56 g1 g2 g3 g4 g5 g6 g7 g8) Q (mkT [(2,.b fl),(3,.ptr 0 0),(6,.ptr 1 0),(9,.b t),(10,.own 2 rn.length),(11,.fz (words v).length (rS (words v))),(12,.i .i64 j),(13,.s (w.take 60))]) (mkH 0 [.cells 0 true false (cList rl),.cells 0 true false [.i .u8 0,.nils],.cells 4 true true (rN rn)]) :=
      fun Q hQ=>step16_56 hE h4 h5 h6 h7 h8 fl t (words v) j rl w rn (by omega) (by omega) hlt hx (by omega) k1 (by rw [k2]; exact hm) _ rfl Q hQ
    simp only [argsT,H0,mkT,mkH,trL,List.length_cons,List.length_nil,Nat.reduceAdd,Nat.zero_add,cList]
    by_cases h60:(60:Int) < w.length
    · have h1:60 ≤ w.length:=by omega
      simp only [↓vS,cvF_pc,vP,shb,shv,shvs,she_nil,she_cons,vC,vQ,not_false_eq_true,Nat.reduceEqDiff,↓reduceIte,eq_self,Nat.reduceAdd,Nat.reduceMul,Nat.reduceSub,Nat.reduceLeDiff,Nat.reduceLT,defd,cellsOf,wr,packR,Int.reduceLE,Int.reduceLT,Int.reduceEq,Int.cast_ofNat_Int,Int.reduceToNat,hlt,hx,Nat.mul_one,h60,h1,List.drop_zero]
      refine S.weak (Wk.mk _ _ [0,1,2] ?_ ?_ ?_ rfl) (go _ (fun t' h' hw=>?_))
      · simp [vW,bw_map,mapAt_map,mapClo_it,mapClo_nil,mapClo_cons,vP,vZ,Tr.get_set,rS_clos]
      · simp [vW,bw_map,mapAt_map,mapClo_it,mapClo_nil,mapClo_cons,vP,vZ,Tr.get_set,cList,nvs_self,rN_clos,rC_clos]
      · simp
      · simp only [↓vS,cvF_pc,vP,shb,shv,shvs,she_nil,she_cons,vC,vQ,not_false_eq_true,Nat.reduceEqDiff,↓reduceIte,eq_self,Nat.reduceAdd,Nat.reduceMul,Nat.reduceSub,Nat.reduceLeDiff,Nat.reduceLT,defd,cellsOf,wr,packR,Int.reduceLE,Int.reduceLT,Int.reduceEq,Int.cast_ofNat_Int,Int.reduceToNat]
        exact S.weak hw (step16_up fl t (words v) j (by omega) _ _ _ (fun t'' h'' hw'=>ih2 (by omega) (by omega) t'' h'' hw'))
    · have h1:w.take 60 = w:=List.take_of_length_le (by omega)
      rw [h1] at go
      simp only [↓vS,cvF_pc,vP,shb,shv,shvs,she_nil,she_cons,vC,vQ,not_false_eq_true,Nat.reduceEqDiff,↓reduceIte,eq_self,Nat.reduceAdd,Nat.reduceMul,Nat.reduceSub,Nat.reduceLeDiff,Nat.reduceLT,defd,cellsOf,wr,packR,Int.reduceLE,Int.reduceLT,Int.reduceEq,Int.cast_ofNat_Int,Int.reduceToNat,hlt,hx,Nat.mul_one,h60]
      refine S.weak (Wk.mk _ _ [0,1,2] ?_ ?_ ?_ rfl) (go _ (fun t' h' hw=>?_))
      · simp [vW,bw_map,mapAt_map,mapClo_it,mapClo_nil,mapClo_cons,vP,vZ,Tr.get_set,rS_clos]
      · simp [vW,bw_map,mapAt_map,mapClo_it,mapClo_nil,mapClo_cons,vP,vZ,Tr.get_set,cList,nvs_self,rN_clos,rC_clos]
      · simp
      · simp only [↓vS,cvF_pc,vP,shb,shv,shvs,she_nil,she_cons,vC,vQ,not_false_eq_true,Nat.reduceEqDiff,↓reduceIte,eq_self,Nat.reduceAdd,Nat.reduceMul,Nat.reduceSub,Nat.reduceLeDiff,Nat.reduceLT,defd,cellsOf,wr,packR,Int.reduceLE,Int.reduceLT,Int.reduceEq,Int.cast_ofNat_Int,Int.reduceToNat]
        exact S.weak hw (step16_up fl t (words v) j (by omega) _ _ _ (fun t'' h'' hw'=>ih2 (by omega) (by omega) t'' h'' hw'))
  · have hjl:(words v).take j = words v:=List.take_of_length_le (by omega)
    rw [hjl]
    generalize (words v).foldl (stepW E fl t) (l,[]) = r
    simp only [argsT,H0,mkT,mkH,trL,List.length_cons,List.length_nil,Nat.reduceAdd,Nat.zero_add,cList]
    simp only [↓vS,cvF_pc,vP,shb,shv,shvs,she_nil,she_cons,vC,vQ,not_false_eq_true,Nat.reduceEqDiff,↓reduceIte,eq_self,Nat.reduceAdd,Nat.reduceMul,Nat.reduceSub,Nat.reduceLeDiff,Nat.reduceLT,defd,cellsOf,wr,packR,Int.reduceLE,Int.reduceLT,Int.reduceEq,Int.cast_ofNat_Int,Int.reduceToNat,hlt]
    simp [vZ,vP,Tr.get_set,cList,frzs_self rC_clos,frzs_self rN_clos]
    intro h0; rw [h0]; rfl
end Go.Kc
end
