/- What the row lists, tied to the program's text: as the given tie, each closed fact a theorem of its own. No condition. -/
import Derived.Test.YtklaibhahdcciaaGreatDoorRows
import Derived.LaidByTextLater
import Derived.SevenTiedAt
import Derived.KernelRfl
namespace Go.Proofs.YtklaibhahdcciaaGreatDoor.sessionNil
open Go
def tL:List (String×DataW Unit):=[("internal/strconv.uint64pow10",Rows.laid_internal_strconv_uint64pow10),("math/bits.deBruijn32tab",Rows.laid_math_bits_deBruijn32tab),("math/bits.deBruijn64tab",Rows.laid_math_bits_deBruijn64tab),("unicode/utf8.acceptRanges",Rows.laid_unicode_utf8_acceptRanges),("strconv.ErrSyntax",Rows.laid_strconv_ErrSyntax),("strconv.ErrRange",Rows.laid_strconv_ErrRange)]
theorem tieA:Tryz.prog.worded (varsWordLater true)=true:=by kernel_rfl
theorem tieB:Tryz.prog.worded (varsWordLater !true)=false:=by kernel_rfl
theorem tieC:Tryz.prog.worded rootWordLater=true:=by kernel_rfl
theorem tieD:tL.map (fun x=>Tryz.prog.kindOfLater x.1)=([.data,.data,.data,.data,.sentinel,.sentinel]:List LaidKind).map some:=by kernel_rfl
theorem tieE:(Tryz.prog.funcNamed "gosem.cut.vars").isSome=true:=by kernel_rfl
theorem tieF:varsNamedLaterB Tryz.prog (varsId Tryz.prog) tL=true:=by kernel_rfl
theorem tieG(os:Os)(tape):varsDone Tryz.prog 400 (varsId Tryz.prog) os tape=true:=by kernel_rfl
theorem tieH(os:Os)(tape):(DataW.laidRun Tryz.prog (varsWorld Tryz.prog 400 (varsId Tryz.prog) os tape).memory 8 (tL.map (·.1))).map (·.1)=some tL:=by kernel_rfl
theorem tieI(os:Os)(tape):(DataW.laidRun Tryz.prog (varsWorld Tryz.prog 400 (varsId Tryz.prog) os tape).memory 8 (tL.map (·.1))).map (fun x=>decide x.2.Nodup&&laidRowsB Tryz.prog (varsWorld Tryz.prog 400 (varsId Tryz.prog) os tape).memory x.2)=some true:=by kernel_rfl
theorem tieJ:(tL.all fun x=>x.2.handleName?.isNone)=true:=by kernel_rfl
theorem tie:Tryz.prog.laidByTextLater tL [.data,.data,.data,.data,.sentinel,.sentinel] true:=Program.laidByTextLater_by_run 400 8 tieA tieB tieC tieD tieE tieF tieG tieH tieI tieJ
theorem pin_laid_unicode_utf8_first:Tryz.pinned.checked.prog.pinnedFits "unicode/utf8.first" = true:=by kernel_rfl
theorem pin_laid_unicode_CaseRanges:Tryz.pinned.checked.prog.pinnedFits "unicode.CaseRanges" = true:=by kernel_rfl
theorem noOwnUnsafe:Tryz.pinned.checked.prog.headLifts.contains "ownunsafe" = false:=by kernel_rfl
theorem fits1:Tryz.pinned.checked.prog.listedFits [("internal/strconv.uint64pow10",Rows.laid_internal_strconv_uint64pow10),("math/bits.deBruijn32tab",Rows.laid_math_bits_deBruijn32tab),("math/bits.deBruijn64tab",Rows.laid_math_bits_deBruijn64tab),("unicode/utf8.first",Rows.laid_unicode_utf8_first),("unicode/utf8.acceptRanges",Rows.laid_unicode_utf8_acceptRanges),("strconv.ErrSyntax",Rows.laid_strconv_ErrSyntax),("strconv.ErrRange",Rows.laid_strconv_ErrRange),("unicode.CaseRanges",Rows.laid_unicode_CaseRanges)]=true:=by
 unfold Program.listedFits;rw[noOwnUnsafe]
 kernel_rfl
theorem sessionNil_row_tie:Rows.sessionNilRow.laidByTextAt .later Tryz.pinned [.data,.data,.data,.pinned,.data,.sentinel,.sentinel,.pinned] true :=
 OpenClaim.laidByTextAt_pinned rfl rfl tie rfl rfl rfl rfl (fun y hy _e=>by
  simp only[Rows.sessionNilRow,List.zip_cons_cons,List.zip_nil_right,List.mem_cons,List.mem_nil_iff,or_false] at hy;rcases hy with rfl|rfl|rfl|rfl|rfl|rfl|rfl|rfl
  ·cases _e
  ·cases _e
  ·cases _e
  ·exact⟨pin_laid_unicode_utf8_first,by kernel_rfl⟩
  ·cases _e
  ·cases _e
  ·cases _e
  ·exact⟨pin_laid_unicode_CaseRanges,by kernel_rfl⟩) fits1
end Go.Proofs.YtklaibhahdcciaaGreatDoor.sessionNil
