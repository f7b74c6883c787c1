/- fold's functions, at this program's numbers. No condition. -/
import Derived.Test.YtdmjpfekglajoaaK9
import Derived.Test.YtdmjpfekglajoaaK8
import Derived.Test.YtdmjpfekglajoaaK7
import Derived.Test.YtdmjpfekglajoaaEnvG
namespace Go.Proofs.Ytdmjpfekglajoaa.Walk
open Go.Kc
theorem words:cWords Try.prog 15 :=
  words_pure (by kernel_rfl) (fun l hl=>fields_pure (f:=50) (by kernel_rfl) (words_pred (f:=51) (by kernel_rfl)) l hl)
theorem hasL:∀ s p:List UInt8,Pure Try.prog 105 [.s s,.s p] (.b (p.isPrefixOf s)):=hasPrefix_lite (by kernel_rfl)
theorem hasP:∀ s p:List UInt8,Pure Try.prog 75 [.s s,.s p] (.b (p.isPrefixOf s)):=hasPrefix_strings (by kernel_rfl) hasL
theorem turned:cTurned Try.prog 16:=turned_pure (by kernel_rfl) (cutPrefix_strings (f:=52) (by kernel_rfl) (cutPrefix_lite (f:=77) (by kernel_rfl) hasL))
theorem idxB1 (a:List UInt8) (c:UInt8):Pure Try.prog 167 [.s a,.i .u8 (c.toNat:Int)] (.i .i64 (idxB c a 0)):=indexByte_ext (isExt.of Try.func167 (by kernel_rfl) (by kernel_rfl) (by kernel_rfl) (by kernel_rfl)) a c
theorem cmpE (a b:List UInt8):Pure Try.prog 112 [.s a,.s b] (.i .i64 (cmpB a b)):=cmpstring_ext (isExt.of Try.func112 (by kernel_rfl) (by kernel_rfl) (by kernel_rfl) (by kernel_rfl)) a b
theorem cmpS:∀ a b:List UInt8,Pure Try.prog 55 [.s a,.s b] (.i .i64 (cmpB a b)):=compare_pure (by kernel_rfl) (compareB_pure (f:=78) (by kernel_rfl) cmpE)
theorem cut:∀ a:List UInt8,a.length ≤ 1000000 → Pure Try.prog 74 [.s a,.s [58]] (.tup [.s (cutM a).1,.s (cutM a).2.1,.b (cutM a).2.2]) :=
  cut58 (by kernel_rfl) (cutL58 (f:=104) (by kernel_rfl) (index58 (f:=122) (g2:=140) (g3:=141) (g4:=142) (by kernel_rfl) (indexByte_lite (f:=139) (by kernel_rfl) idxB1)))
theorem erN:∀ s:List UInt8,s.length ≤ 1000000 → Pure Try.prog 60 [.s s] (.tup [.i .u32 (errnoM s).1,.i .i64 (errnoM s).2]):=errnoN (by kernel_rfl) (errnos_pure (f:=83) (by kernel_rfl)) (find_u32 (f:=84) (by kernel_rfl))
theorem read:cRead Try.prog 47:=read_pure (by kernel_rfl) cut erN
theorem known:∀ s,Pure Try.prog 40 [.s s] (.b (knownM s)):=known_pure (by kernel_rfl) (known1_pure (f:=71) (by kernel_rfl)) (cfind_pure (f:=70) (by kernel_rfl) (table_pure (f:=101) (by kernel_rfl)) (indexFunc_call (f:=102) (by kernel_rfl)))
theorem may:cMay Try.prog 12:=may_pure (by kernel_rfl) known (action_pure (f:=41) (by kernel_rfl))
theorem cop:cCop Try.prog 45:=fcopied (by kernel_rfl) (clone_call (f:=73) (by kernel_rfl))
theorem idxC:cIdxPN 2 Try.prog 81:=indexFunc_apiCall (by kernel_rfl)
theorem put:cPut Try.prog 18:=put_pure (by kernel_rfl) cop may (bsF_pure (f:=53) (by kernel_rfl)) (put1_pure (f:=54) (by kernel_rfl) cmpS)
  (insert_call (f:=56) (g2:=80) (by kernel_rfl) ⟨22,4,38,2,by kernel_rfl,fun w=>by kernel_rfl,isExt.of Try.func79 (by kernel_rfl) (by kernel_rfl) (by kernel_rfl) (by kernel_rfl)⟩)
theorem take:cTake Try.prog 19:=take_pure (by kernel_rfl) cop may (take1_pure (f:=58) (by kernel_rfl)) (deleteFunc_call (f:=57) (by kernel_rfl) idxC)
theorem exp:cExp expG Try.prog 76:=expand_exp (g1:=106) (g2:=107) (g3:=108) (g4:=110) (g5:=111) (k1:=109) (k2:=123) (by kernel_rfl) (by kernel_rfl) (by kernel_rfl) EnvG.tableG EnvG.runs
theorem mem:cExp (memM expG) Try.prog 48:=members_pure (by kernel_rfl) expG hasP exp known
theorem stepO:cStepO expG Try.prog 14:=step_own (by kernel_rfl) expG_ok (cCop_pure cop) may words turned (step1_upd (f:=46) (by kernel_rfl)) read mem (ins_pure (f:=49) (by kernel_rfl)) put take
theorem step:cStep expG Try.prog 14:=cStep_pure stepO
theorem great16:∀ l:GList,Pure Try.prog 11 [.agg (cList l)] (.b (Go.Kc.great16 l)):=great16_pure (by kernel_rfl)
end Go.Proofs.Ytdmjpfekglajoaa.Walk
