/- The setter's functions, at this program's numbers. No condition. -/
import Derived.Test.YtdmjpfekglajoaaK8
import Derived.Test.YtdmjpfekglajoaaProg
import Derived.KernelRfl
namespace Go.Proofs.Ytdmjpfekglajoaa.Walk
open Go.Kc
theorem words : cWords Try.prog 15 :=
  words_pure (by kernel_rfl) (fun l hl => fields_pure (f := 50) (by kernel_rfl) (words_pred (f := 51) (by kernel_rfl)) l hl)
theorem cutP : ∀ s p, Pure Try.prog 52 [.s s, .s p] (cutPrefix s p) :=
  cutPrefix_strings (by kernel_rfl) (cutPrefix_lite (f := 77) (by kernel_rfl) (hasPrefix_lite (f := 105) (by kernel_rfl)))
theorem turned : cTurned Try.prog 16 := turned_pure (by kernel_rfl) cutP
theorem bool : cBool Try.prog 36 := bool_pure (by kernel_rfl) (says_pure (f := 67) (by kernel_rfl)) (contains_string (f := 68) (by kernel_rfl) (index_string (f := 100) (by kernel_rfl)))
theorem clI : cClone Try.prog 91 1 8 := clone_int (by kernel_rfl)
theorem clU : cClone Try.prog 92 1 4 := clone_u32 (by kernel_rfl)
theorem clC : cClone Try.prog 73 2 24 := clone_call (by kernel_rfl)
theorem ovI : isOv Try.prog 160 := ⟨51, 4, 3, 1, by kernel_rfl, fun w => by kernel_rfl, isExt.of Try.func160 (by kernel_rfl) (by kernel_rfl) (by kernel_rfl) (by kernel_rfl)⟩
theorem ovU : isOv Try.prog 165 := ⟨52, 4, 36, 1, by kernel_rfl, fun w => by kernel_rfl, isExt.of Try.func165 (by kernel_rfl) (by kernel_rfl) (by kernel_rfl) (by kernel_rfl)⟩
theorem insI : cInsert 1 8 Try.prog 132 := insert_int (g2 := 161) (by kernel_rfl) ovI
theorem insU : cInsert 1 4 Try.prog 137 := insert_u32 (g2 := 166) (by kernel_rfl) ovU
theorem delI : cDelete_int Try.prog 129 := deleteFunc_int (by kernel_rfl) (indexFunc_int (f := 157) (by kernel_rfl))
theorem delU : cDelete_u32 Try.prog 134 := deleteFunc_u32 (by kernel_rfl) (indexFunc_u32 (f := 162) (by kernel_rfl))
theorem bsI : cBs_int Try.prog 131 := bs_int (by kernel_rfl) (less_int (f := 158) (by kernel_rfl) (cisNaN_int (f := 175) (by kernel_rfl))) (sisNaN_int (f := 159) (by kernel_rfl))
theorem bsU : cBs_u32 Try.prog 136 := bs_u32 (by kernel_rfl) (less_u32 (f := 163) (by kernel_rfl) (cisNaN_u32 (f := 177) (by kernel_rfl))) (sisNaN_u32 (f := 164) (by kernel_rfl))
theorem wI : cWith64 Try.prog 117 := with_int (by kernel_rfl) clI (withEq_int (f := 130) (by kernel_rfl)) delI bsI insI
theorem wU : cWith32 Try.prog 119 := with_u32 (by kernel_rfl) clU (withEq_u32 (f := 135) (by kernel_rfl)) delU bsU insU
theorem archP : cArchParse Try.prog 115 := archParse (by kernel_rfl) (archParse_1 (f := 128) (by kernel_rfl)) (arch_find (f := 127) (by kernel_rfl) (arch_table (f := 155) (by kernel_rfl)) (indexFunc_arch (f := 156) (by kernel_rfl)))
theorem nte : cNoteU Try.prog 116 := note_upd (by kernel_rfl)
theorem sp0 : Pure Try.prog 69 [] (.agg (tab_spaces.flatMap (rowN .u64))) := spaces_pure (by kernel_rfl)
theorem spA : Pure Try.prog 38 [] (.i .u64 2114060416) := spaces_all (by kernel_rfl) sp0
theorem spN : cSpace Try.prog 120 := space_name (by kernel_rfl) sp0 (find_u64 (f := 138) (by kernel_rfl))
theorem faN : cFamily Try.prog 118 := family_name (by kernel_rfl) (families_pure (f := 133) (by kernel_rfl)) (find_u32 (f := 84) (by kernel_rfl))
theorem m1 : cMeth Try.prog 93 m_arches := meth_arches (by kernel_rfl) words archP nte wI
theorem m2 : cMeth Try.prog 94 m_families := meth_families (by kernel_rfl) turned words faN nte wU
theorem m3 : cMeth Try.prog 95 m_namespaces := meth_namespaces (by kernel_rfl) words bool spA turned spN nte
theorem m4 : cMeth Try.prog 96 m_we := meth_we (by kernel_rfl) (says_9 (f := 121) (by kernel_rfl) bool nte)
theorem m5 : cMeth Try.prog 97 m_pe := meth_pe (by kernel_rfl) (says_10 (f := 121) (by kernel_rfl) bool nte)
theorem m6 : cMeth Try.prog 98 m_rt := meth_rt (by kernel_rfl) (says_11 (f := 121) (by kernel_rfl) bool nte)
theorem m7 : cMeth Try.prog 99 m_np := meth_np (by kernel_rfl) (says_12 (f := 121) (by kernel_rfl) bool nte)
theorem rset : cSet Try.prog 34 := set_pure (by kernel_rfl) (copied_restrict (f := 65) (by kernel_rfl) clI clU clC) (keys_own (f := 66) (by kernel_rfl)) ⟨m1, m2, m3, m4, m5, m6, m7⟩
end Go.Proofs.Ytdmjpfekglajoaa.Walk
