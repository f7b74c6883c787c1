/- fold's functions and the document's, at this program's numbers. No condition. -/
import Derived.Test.YtdmjpfekglajoaaGreatK10
import Derived.Test.YtdmjpfekglajoaaGreatK10
import Derived.Test.YtdmjpfekglajoaaGreatK8
import Derived.Test.YtdmjpfekglajoaaGreatEnvH
namespace Go.Proofs.YtdmjpfekglajoaaGreat.Walk
open Go.Kc
theorem words:cWords Tryz.prog 35 :=
  words_pure (by kernel_rfl) (fun l hl=>fields_pure (f:=67) (by kernel_rfl) (words_pred (f:=68) (by kernel_rfl)) l hl)
theorem hasL:∀ s p:List UInt8,Pure Tryz.prog 98 [.s s,.s p] (.b (p.isPrefixOf s)):=hasPrefix_lite (by kernel_rfl)
theorem hasP:∀ s p:List UInt8,Pure Tryz.prog 72 [.s s,.s p] (.b (p.isPrefixOf s)):=hasPrefix_strings (by kernel_rfl) hasL
theorem turned:cTurned Tryz.prog 36:=turned_pure (by kernel_rfl) (cutPrefix_strings (f:=69) (by kernel_rfl) (cutPrefix_lite (f:=94) (by kernel_rfl) hasL))
theorem idxB1 (a:List UInt8) (c:UInt8):Pure Tryz.prog 134 [.s a,.i .u8 (c.toNat:Int)] (.i .i64 (idxB c a 0)):=indexByte_ext (isExt.of Tryz.func134 (by kernel_rfl) (by kernel_rfl) (by kernel_rfl) (by kernel_rfl)) a c
theorem cmpE (a b:List UInt8):Pure Tryz.prog 108 [.s a,.s b] (.i .i64 (cmpB a b)):=cmpstring_ext (isExt.of Tryz.func108 (by kernel_rfl) (by kernel_rfl) (by kernel_rfl) (by kernel_rfl)) a b
theorem cmpS:∀ a b:List UInt8,Pure Tryz.prog 52 [.s a,.s b] (.i .i64 (cmpB a b)):=compare_pure (by kernel_rfl) (compareB_pure (f:=81) (by kernel_rfl) cmpE)
theorem cut:∀ a:List UInt8,a.length ≤ 1000000 → Pure Tryz.prog 70 [.s a,.s [58]] (.tup [.s (cutM a).1,.s (cutM a).2.1,.b (cutM a).2.2]) :=
  cut58 (by kernel_rfl) (cutL58 (f:=95) (by kernel_rfl) (index58 (f:=113) (g2:=119) (g3:=120) (g4:=121) (by kernel_rfl) (indexByte_lite (f:=118) (by kernel_rfl) idxB1)))
theorem erN:∀ s:List UInt8,s.length ≤ 1000000 → Pure Tryz.prog 71 [.s s] (.tup [.i .u32 (errnoM s).1,.i .i64 (errnoM s).2]):=errnoN (by kernel_rfl) (errnos_pure (f:=96) (by kernel_rfl)) (find_u32 (f:=97) (by kernel_rfl))
theorem read:cRead Tryz.prog 38:=read_pure (by kernel_rfl) cut erN
theorem known:∀ s,Pure Tryz.prog 56 [.s s] (.b (knownM s)):=known_pure (by kernel_rfl) (known1_pure (f:=85) (by kernel_rfl)) (cfind_pure (f:=84) (by kernel_rfl) (table_pure (f:=110) (by kernel_rfl)) (indexFunc_call (f:=111) (by kernel_rfl)))
theorem may:cMay Tryz.prog 21:=may_pure (by kernel_rfl) known (action_pure (f:=57) (by kernel_rfl))
theorem cop:cCop Tryz.prog 34:=fcopied (by kernel_rfl) (clone_call (f:=66) (by kernel_rfl))
theorem idxC:cIdxPN 2 Tryz.prog 79:=indexFunc_apiCall (by kernel_rfl)
theorem putO:cPutO Tryz.prog 19:=put_own (by kernel_rfl) cop may (bsF_pure (f:=50) (by kernel_rfl)) (put1_pure (f:=51) (by kernel_rfl) cmpS)
  (insert_call (f:=53) (g2:=83) (by kernel_rfl) ⟨22,4,82,2,by kernel_rfl,fun w=>by kernel_rfl,isExt.of Tryz.func82 (by kernel_rfl) (by kernel_rfl) (by kernel_rfl) (by kernel_rfl)⟩)
theorem takeO:cTakeO Tryz.prog 20:=take_own (by kernel_rfl) cop may (take1_pure (f:=55) (by kernel_rfl)) (deleteFunc_call (f:=54) (by kernel_rfl) idxC)
theorem exp:cExp expG Tryz.prog 73:=expand_exp (g1:=99) (g2:=100) (g3:=101) (g4:=103) (g5:=104) (k1:=102) (k2:=114) (by kernel_rfl) (by kernel_rfl) (by kernel_rfl) EnvH.tableG EnvH.runs
theorem mem:cExp (memM expG) Tryz.prog 39:=members_pure (by kernel_rfl) expG hasP exp known
theorem stepL:cStepL expG Tryz.prog 9:=ostep_own (by kernel_rfl) expG_ok cop may words turned (step1_upd (f:=37) (by kernel_rfl)) read mem (ins_pure (f:=40) (by kernel_rfl)) putO takeO
theorem step:cStep expG Tryz.prog 9:=cStep_ofL stepL
theorem fold:cFold expG Tryz.prog 15:=fold_pure (by kernel_rfl) expG_ok step
theorem awake16:Pure Tryz.prog 14 [] (.b true):=Go.Kc.awake16 (by kernel_rfl) (call_pure (f:=48) (by kernel_rfl)) (comes_pure (f:=47) (by kernel_rfl) expG_ok fold) fold EnvH.warns1 EnvH.warns0
theorem er10:∀ s:List UInt8,s.length ≤ 1000000 → Pure Tryz.prog 74 [.s s] (.tup [.i .u32 (errnoM s).1,.i .i64 (errnoM s).2]):=errno10 (by kernel_rfl) (errnos10 (f:=106) (by kernel_rfl)) (find10 (f:=105) (by kernel_rfl))
theorem wordsR:cWords15 Tryz.prog 41:=words15 (by kernel_rfl)
theorem turnR:cTurn15 Tryz.prog 42:=turned15 (by kernel_rfl)
theorem readR:cRead Tryz.prog 43:=read15 (by kernel_rfl) er10
theorem knownR:∀ s,Pure Tryz.prog 45 [.s s] (.b (knownM s)):=known9 (by kernel_rfl) EnvH.table9
theorem mayR:cMayR Tryz.prog 22:=may16 (by kernel_rfl) knownR
theorem take0R:cTake0 Tryz.prog 46:=take0 (by kernel_rfl)
theorem putR:cPutR Tryz.prog 25:=put16 (by kernel_rfl) mayR take0R
theorem expR:cExp expG Tryz.prog 44:=expand11 (g1:=75) (g2:=76) (g3:=77) (k1:=107) (by kernel_rfl) (by kernel_rfl) EnvH.table11 EnvH.runs11
theorem stepR:cStepR expG Tryz.prog 10:=step16 (by kernel_rfl) expG_ok mayR wordsR turnR readR expR knownR putR take0R
theorem foldR:cFold expG Tryz.prog 16:=fold16 (by kernel_rfl) expG_ok stepR
theorem folds (l:List (List UInt8)) (fl:Bool):Pure Tryz.prog 4 [.fz l.length (rS l),.b fl] (.b true):=foldFolds (by kernel_rfl) expG_ok fold foldR (same16 (f:=11) (by kernel_rfl)) (sameNotes_self (f:=12) (by kernel_rfl)) awake16 l fl
end Go.Proofs.YtdmjpfekglajoaaGreat.Walk
