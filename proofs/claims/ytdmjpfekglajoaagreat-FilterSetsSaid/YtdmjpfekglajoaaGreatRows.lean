/-
  No cell of these rows narrows 'for every input' (looked for: loops, veiled, ifaces, maps, wideKeys, modest, calm, conditions, laid).
  DERIVED. THE GIVEN ROWS OF THIS SEAT. 4 by the template 'for every input the law returns true; each argument reads behind the call as it read before'; 0 by the template 'total and deterministic' (their statements: YtdmjpfekglajoaaGreatTotals.lean).
  GIVEN WITH THE SEED: the statements are not yours to turn. If you find one false, say at which input.
  Laid BY PROGRAM, IN A SANDBOX (cutbox-rows.mjs): the forced cells as the released guide's own fill.sh prints them over the translation 912a01f89eaca40f… (all of the seat's roots in one cut). By AI agents, Wed Nov 11 2026. No macro, syntax, notation, axiom, sorry.
-/
import Derived.Test.YtdmjpfekglajoaaGreatChecked
import GoSem.Claim
import GoSem.ClaimJoined
import GoSem.ClaimMapViews
import Derived.JoinedTies
import Derived.KernelRfl
namespace Go.Proofs.YtdmjpfekglajoaaGreat
/- THE CELL 'sum', in the pinned program and in every row, IS THE sha256 OF THE DUMP (.gsa) THAT YtdmjpfekglajoaaGreatProg.lean LOADS. Nothing in Lean hashes anything: it is a label: what it is worth is what the hold of that sum in a sandbox is worth. -/
noncomputable def Tryz.pinned : Pinned := { name := "ytdmjpfekglajoaagreat", sum := "912a01f89eaca40f0f5a38526696053a2148de81abba0ed6f9e0125f09e218bb", checked := Tryz.checked }
namespace Rows
def none {H : Type} : Left H := { results := [], args := [] }

/-- 'vestibulelaw16.FoldSteps': WHATEVER THE INPUT: true; the input reads as it did. -/
def foldStepsSpec : ChangeSpec := { name := "foldSteps", fn := fun _ => fun
  | [d1, d2, d3] => { results := [.lit (.bool true)], args := [d1, d2, d3] }
  | _ => none }
def foldStepsRow : OpenClaim := { program := "ytdmjpfekglajoaagreat", sum := "912a01f89eaca40f0f5a38526696053a2148de81abba0ed6f9e0125f09e218bb", func := "vestibule/vestibulelaw16.FoldSteps", spec := "foldSteps", inPlace := ["internal/bytealg.IndexByteString", "internal/bytealg.IndexString", "internal/bytealg.abigen_runtime_cmpstring", "slices.overlaps[vestibule/api.Call]"], unfollowed := true, recurses := true, named := ["internal/bytealg.MaxLen"], apart := false }
def FoldStepsSaid : Prop := foldStepsRow.holds Tryz.pinned (OpenSpec.ofChange foldStepsSpec)

/-- ITS FALSE NEIGHBOUR: 'it returns false'. Refute it at one input. -/
def foldStepsWrong : ChangeSpec := { name := "foldSteps", fn := fun _ => fun
  | [d1, d2, d3] => { results := [.lit (.bool false)], args := [d1, d2, d3] }
  | _ => none }
def FoldStepsWrongFalsely : Prop := foldStepsRow.holds Tryz.pinned (OpenSpec.ofChange foldStepsWrong)

/-- 'vestibulelaw16.FoldFolds': WHATEVER THE INPUT: true; the input reads as it did. -/
def foldFoldsSpec : ChangeSpec := { name := "foldFolds", fn := fun _ => fun
  | [d1, d2] => { results := [.lit (.bool true)], args := [d1, d2] }
  | _ => none }
def foldFoldsRow : OpenClaim := { program := "ytdmjpfekglajoaagreat", sum := "912a01f89eaca40f0f5a38526696053a2148de81abba0ed6f9e0125f09e218bb", func := "vestibule/vestibulelaw16.FoldFolds", spec := "foldFolds", inPlace := ["internal/bytealg.IndexByteString", "internal/bytealg.IndexString", "internal/bytealg.abigen_runtime_cmpstring", "slices.overlaps[vestibule/api.Call]"], unfollowed := true, recurses := true, named := ["internal/bytealg.MaxLen"], apart := false }
def FoldFoldsSaid : Prop := foldFoldsRow.holds Tryz.pinned (OpenSpec.ofChange foldFoldsSpec)

/-- ITS FALSE NEIGHBOUR: 'it returns false'. Refute it at one input. -/
def foldFoldsWrong : ChangeSpec := { name := "foldFolds", fn := fun _ => fun
  | [d1, d2] => { results := [.lit (.bool false)], args := [d1, d2] }
  | _ => none }
def FoldFoldsWrongFalsely : Prop := foldFoldsRow.holds Tryz.pinned (OpenSpec.ofChange foldFoldsWrong)

/-- 'vestibulelaw16.FoldLists': WHATEVER THE INPUT: true; the input reads as it did. -/
def foldListsSpec : ChangeSpec := { name := "foldLists", fn := fun _ => fun
  | [d1, d2, d3, d4] => { results := [.lit (.bool true)], args := [d1, d2, d3, d4] }
  | _ => none }
def foldListsRow : OpenClaim := { program := "ytdmjpfekglajoaagreat", sum := "912a01f89eaca40f0f5a38526696053a2148de81abba0ed6f9e0125f09e218bb", func := "vestibule/vestibulelaw16.FoldLists", spec := "foldLists", inPlace := ["internal/bytealg.abigen_runtime_cmpstring", "slices.overlaps[vestibule/api.Call]", "internal/bytealg.IndexByteString", "internal/bytealg.IndexString"], unfollowed := true, recurses := true, named := ["internal/bytealg.MaxLen"], apart := false }
def FoldListsSaid : Prop := foldListsRow.holds Tryz.pinned (OpenSpec.ofChange foldListsSpec)

/-- ITS FALSE NEIGHBOUR: 'it returns false'. Refute it at one input. -/
def foldListsWrong : ChangeSpec := { name := "foldLists", fn := fun _ => fun
  | [d1, d2, d3, d4] => { results := [.lit (.bool false)], args := [d1, d2, d3, d4] }
  | _ => none }
def FoldListsWrongFalsely : Prop := foldListsRow.holds Tryz.pinned (OpenSpec.ofChange foldListsWrong)

/-- 'vestibulelaw17.FilterSets': WHATEVER THE INPUT: true; the input reads as it did. -/
def filterSetsSpec : ChangeSpec := { name := "filterSets", fn := fun _ => fun
  | [d1, d2] => { results := [.lit (.bool true)], args := [d1, d2] }
  | _ => none }
def filterSetsRow : OpenClaim := { program := "ytdmjpfekglajoaagreat", sum := "912a01f89eaca40f0f5a38526696053a2148de81abba0ed6f9e0125f09e218bb", func := "vestibule/vestibulelaw17.FilterSets", spec := "filterSets", inPlace := ["internal/bytealg.IndexByteString", "internal/bytealg.IndexString", "internal/bytealg.abigen_runtime_cmpstring", "slices.overlaps[vestibule/api.Call]"], unfollowed := true, recurses := true, named := ["internal/bytealg.MaxLen"], apart := false }
def FilterSetsSaid : Prop := filterSetsRow.holds Tryz.pinned (OpenSpec.ofChange filterSetsSpec)

/-- ITS FALSE NEIGHBOUR: 'it returns false'. Refute it at one input. -/
def filterSetsWrong : ChangeSpec := { name := "filterSets", fn := fun _ => fun
  | [d1, d2] => { results := [.lit (.bool false)], args := [d1, d2] }
  | _ => none }
def FilterSetsWrongFalsely : Prop := filterSetsRow.holds Tryz.pinned (OpenSpec.ofChange filterSetsWrong)

/- THE SECOND FORM. 'bulk': how many values and letters a reading holds, each counted each time it is reached (what is shared counts as often as it is met; a slice's spare places count too). A statement '..UptoSaid' is the law's where the arguments, and the package variables that the reading takes, are together of bulk at most 1048576: NARROWER than '..Said'. Prove '..Said' where nothing that the law and all that it calls make is longer than what came in: it says more and counts as full. Else prove '..UptoSaid'. A law counts once. -/
mutual
def uptoBulk {H : Type} : DataW H → Nat
  | .lit (.string bytes) => bytes.length + 1
  | .lit _ => 1
  | .nil => 1
  | .ptr d => uptoBulk d + 1
  | .slice elems spare => uptoBulkAll elems + uptoBulkAll spare + 1
  | .agg parts => uptoBulkAll parts + 1
  | .iface _ d => uptoBulk d + 1
  | .map entries => uptoBulkEntries entries + 1
  | .held _ => 1
def uptoBulkAll {H : Type} : List (DataW H) → Nat
  | [] => 0
  | d :: r => uptoBulk d + uptoBulkAll r
def uptoBulkEntries {H : Type} : List (Lit × DataW H) → Nat
  | [] => 0
  | x :: r => uptoBulkEntry x + uptoBulkEntries r
def uptoBulkEntry {H : Type} : Lit × DataW H → Nat
  | (.string bytes, d) => bytes.length + uptoBulk d + 1
  | (_, d) => uptoBulk d + 1
 end
def uptoSmall : (H : Type) → List (DataW H) → Bool := fun _ ds => decide (uptoBulkAll ds ≤ 1048576)
def OpenSpec.upto (s : _root_.Go.ChangeSpec) : _root_.Go.OpenSpec := { _root_.Go.OpenSpec.ofChange s with cond := some uptoSmall }

/-- 'vestibulelaw16.FoldSteps', WHERE WHAT IT READS IS OF BULK AT MOST 1048576: true; the input reads as it did. -/
def foldStepsUptoRow : OpenClaim := { program := "ytdmjpfekglajoaagreat", sum := "912a01f89eaca40f0f5a38526696053a2148de81abba0ed6f9e0125f09e218bb", func := "vestibule/vestibulelaw16.FoldSteps", spec := "foldSteps", inPlace := ["internal/bytealg.IndexByteString", "internal/bytealg.IndexString", "internal/bytealg.abigen_runtime_cmpstring", "slices.overlaps[vestibule/api.Call]"], unfollowed := true, recurses := true, named := ["internal/bytealg.MaxLen"], apart := false, narrowed := true }
def FoldStepsUptoSaid : Prop := foldStepsUptoRow.holds Tryz.pinned (OpenSpec.upto foldStepsSpec)

/-- 'vestibulelaw16.FoldFolds', WHERE WHAT IT READS IS OF BULK AT MOST 1048576: true; the input reads as it did. -/
def foldFoldsUptoRow : OpenClaim := { program := "ytdmjpfekglajoaagreat", sum := "912a01f89eaca40f0f5a38526696053a2148de81abba0ed6f9e0125f09e218bb", func := "vestibule/vestibulelaw16.FoldFolds", spec := "foldFolds", inPlace := ["internal/bytealg.IndexByteString", "internal/bytealg.IndexString", "internal/bytealg.abigen_runtime_cmpstring", "slices.overlaps[vestibule/api.Call]"], unfollowed := true, recurses := true, named := ["internal/bytealg.MaxLen"], apart := false, narrowed := true }
def FoldFoldsUptoSaid : Prop := foldFoldsUptoRow.holds Tryz.pinned (OpenSpec.upto foldFoldsSpec)

/-- 'vestibulelaw16.FoldLists', WHERE WHAT IT READS IS OF BULK AT MOST 1048576: true; the input reads as it did. -/
def foldListsUptoRow : OpenClaim := { program := "ytdmjpfekglajoaagreat", sum := "912a01f89eaca40f0f5a38526696053a2148de81abba0ed6f9e0125f09e218bb", func := "vestibule/vestibulelaw16.FoldLists", spec := "foldLists", inPlace := ["internal/bytealg.abigen_runtime_cmpstring", "slices.overlaps[vestibule/api.Call]", "internal/bytealg.IndexByteString", "internal/bytealg.IndexString"], unfollowed := true, recurses := true, named := ["internal/bytealg.MaxLen"], apart := false, narrowed := true }
def FoldListsUptoSaid : Prop := foldListsUptoRow.holds Tryz.pinned (OpenSpec.upto foldListsSpec)

/-- 'vestibulelaw17.FilterSets', WHERE WHAT IT READS IS OF BULK AT MOST 1048576: true; the input reads as it did. -/
def filterSetsUptoRow : OpenClaim := { program := "ytdmjpfekglajoaagreat", sum := "912a01f89eaca40f0f5a38526696053a2148de81abba0ed6f9e0125f09e218bb", func := "vestibule/vestibulelaw17.FilterSets", spec := "filterSets", inPlace := ["internal/bytealg.IndexByteString", "internal/bytealg.IndexString", "internal/bytealg.abigen_runtime_cmpstring", "slices.overlaps[vestibule/api.Call]"], unfollowed := true, recurses := true, named := ["internal/bytealg.MaxLen"], apart := false, narrowed := true }
def FilterSetsUptoSaid : Prop := filterSetsUptoRow.holds Tryz.pinned (OpenSpec.upto filterSetsSpec)

end Rows
end Go.Proofs.YtdmjpfekglajoaaGreat
