/-
  No cell of these rows narrows 'for every input' (looked for: loops, veiled, ifaces, maps, wideKeys, modest, calm, conditions, laid).
  DERIVED. THE GIVEN ROWS OF THIS SEAT. 4 by the template 'for every input the law returns true; each argument reads behind the call as it read before'; 0 by the template 'total and deterministic' (their statements: YtpopmjgimhmciaaTotals.lean).
  GIVEN WITH THE SEED: the statements are not yours to turn. If you find one false, say at which input.
  Laid BY PROGRAM, IN A SANDBOX (cutbox-rows.mjs): the forced cells as the released guide's own fill.sh prints them over the translation 40808bbcf4213cf7… (all of the seat's roots in one cut). By AI agents, Wed Nov 11 2026. No macro, syntax, notation, axiom, sorry.
-/
import Derived.Test.YtpopmjgimhmciaaChecked
import GoSem.Claim
import GoSem.ClaimJoined
import GoSem.ClaimMapViews
import Derived.JoinedTies
import Derived.KernelRfl
namespace Go.Proofs.Ytpopmjgimhmciaa
/- THE CELL 'sum', in the pinned program and in every row, IS THE sha256 OF THE DUMP (.gsa) THAT YtpopmjgimhmciaaProg.lean LOADS. Nothing in Lean hashes anything: it is a label: what it is worth is what the hold of that sum in a sandbox is worth. -/
noncomputable def Try.pinned : Pinned := { name := "ytpopmjgimhmciaa", sum := "40808bbcf4213cf7be3d641d66f205ed616b4e4ce5530f81500d8fe33a0e577b", checked := Try.checked }
namespace Rows
def none {H : Type} : Left H := { results := [], args := [] }

/-- 'vestibulelaw22.LowerFilters': WHATEVER THE INPUT: true; the input reads as it did. -/
def lowerFiltersSpec : ChangeSpec := { name := "lowerFilters", fn := fun _ => fun
  | [d1, d2, d3] => { results := [.lit (.bool true)], args := [d1, d2, d3] }
  | _ => none }
def lowerFiltersRow : OpenClaim := { program := "ytpopmjgimhmciaa", sum := "40808bbcf4213cf7be3d641d66f205ed616b4e4ce5530f81500d8fe33a0e577b", func := "vestibule/vestibulelaw22.LowerFilters", spec := "lowerFilters", unfollowed := true, recurses := true, apart := false }
def LowerFiltersSaid : Prop := lowerFiltersRow.holds Try.pinned (OpenSpec.ofChange lowerFiltersSpec)

/-- ITS FALSE NEIGHBOUR: 'it returns false'. Refute it at one input. -/
def lowerFiltersWrong : ChangeSpec := { name := "lowerFilters", fn := fun _ => fun
  | [d1, d2, d3] => { results := [.lit (.bool false)], args := [d1, d2, d3] }
  | _ => none }
def LowerFiltersWrongFalsely : Prop := lowerFiltersRow.holds Try.pinned (OpenSpec.ofChange lowerFiltersWrong)

/-- 'vestibulelaw22.LowerAll': WHATEVER THE INPUT: true; the input reads as it did. -/
def lowerAllSpec : ChangeSpec := { name := "lowerAll", fn := fun _ => fun
  | [d] => { results := [.lit (.bool true)], args := [d] }
  | _ => none }
def lowerAllRow : OpenClaim := { program := "ytpopmjgimhmciaa", sum := "40808bbcf4213cf7be3d641d66f205ed616b4e4ce5530f81500d8fe33a0e577b", func := "vestibule/vestibulelaw22.LowerAll", spec := "lowerAll", unfollowed := true, recurses := true, apart := false }
def LowerAllSaid : Prop := lowerAllRow.holds Try.pinned (OpenSpec.ofChange lowerAllSpec)

/-- ITS FALSE NEIGHBOUR: 'it returns false'. Refute it at one input. -/
def lowerAllWrong : ChangeSpec := { name := "lowerAll", fn := fun _ => fun
  | [d] => { results := [.lit (.bool false)], args := [d] }
  | _ => none }
def LowerAllWrongFalsely : Prop := lowerAllRow.holds Try.pinned (OpenSpec.ofChange lowerAllWrong)

/-- 'vestibulelaw22.LowerAlone': WHATEVER THE INPUT: true; the input reads as it did. -/
def lowerAloneSpec : ChangeSpec := { name := "lowerAlone", fn := fun _ => fun
  | [d1, d2, d3, d4] => { results := [.lit (.bool true)], args := [d1, d2, d3, d4] }
  | _ => none }
def lowerAloneRow : OpenClaim := { program := "ytpopmjgimhmciaa", sum := "40808bbcf4213cf7be3d641d66f205ed616b4e4ce5530f81500d8fe33a0e577b", func := "vestibule/vestibulelaw22.LowerAlone", spec := "lowerAlone", unfollowed := true, recurses := true, apart := false }
def LowerAloneSaid : Prop := lowerAloneRow.holds Try.pinned (OpenSpec.ofChange lowerAloneSpec)

/-- ITS FALSE NEIGHBOUR: 'it returns false'. Refute it at one input. -/
def lowerAloneWrong : ChangeSpec := { name := "lowerAlone", fn := fun _ => fun
  | [d1, d2, d3, d4] => { results := [.lit (.bool false)], args := [d1, d2, d3, d4] }
  | _ => none }
def LowerAloneWrongFalsely : Prop := lowerAloneRow.holds Try.pinned (OpenSpec.ofChange lowerAloneWrong)

/-- 'vestibulelaw22.LowerMay': WHATEVER THE INPUT: true; the input reads as it did. -/
def lowerMaySpec : ChangeSpec := { name := "lowerMay", fn := fun _ => fun
  | [d] => { results := [.lit (.bool true)], args := [d] }
  | _ => none }
def lowerMayRow : OpenClaim := { program := "ytpopmjgimhmciaa", sum := "40808bbcf4213cf7be3d641d66f205ed616b4e4ce5530f81500d8fe33a0e577b", func := "vestibule/vestibulelaw22.LowerMay", spec := "lowerMay", unfollowed := true, recurses := true, apart := false }
def LowerMaySaid : Prop := lowerMayRow.holds Try.pinned (OpenSpec.ofChange lowerMaySpec)

/-- ITS FALSE NEIGHBOUR: 'it returns false'. Refute it at one input. -/
def lowerMayWrong : ChangeSpec := { name := "lowerMay", fn := fun _ => fun
  | [d] => { results := [.lit (.bool false)], args := [d] }
  | _ => none }
def LowerMayWrongFalsely : Prop := lowerMayRow.holds Try.pinned (OpenSpec.ofChange lowerMayWrong)

/- THE SECOND FORM. 'bulk': how many values and letters a reading holds, each counted each time it is reached (what is shared counts as often as it is met; a slice's spare places count too). A statement '..UptoSaid' is the law's where the arguments, and the package variables that the reading takes, are together of bulk at most 1048576: NARROWER than '..Said'. Prove '..Said' where nothing that the law and all that it calls make is longer than what came in: it says more and counts as full. Else prove '..UptoSaid'. A law counts once. -/
mutual
def uptoBulk {H : Type} : DataW H → Nat
  | .lit (.string bytes) => bytes.length + 1
  | .lit _ => 1
  | .nil => 1
  | .ptr d => uptoBulk d + 1
  | .slice elems spare => uptoBulkAll elems + uptoBulkAll spare + 1
  | .agg parts => uptoBulkAll parts + 1
  | .iface _ d => uptoBulk d + 1
  | .map entries => uptoBulkEntries entries + 1
  | .held _ => 1
def uptoBulkAll {H : Type} : List (DataW H) → Nat
  | [] => 0
  | d :: r => uptoBulk d + uptoBulkAll r
def uptoBulkEntries {H : Type} : List (Lit × DataW H) → Nat
  | [] => 0
  | x :: r => uptoBulkEntry x + uptoBulkEntries r
def uptoBulkEntry {H : Type} : Lit × DataW H → Nat
  | (.string bytes, d) => bytes.length + uptoBulk d + 1
  | (_, d) => uptoBulk d + 1
 end
def uptoSmall : (H : Type) → List (DataW H) → Bool := fun _ ds => decide (uptoBulkAll ds ≤ 1048576)
def OpenSpec.upto (s : _root_.Go.ChangeSpec) : _root_.Go.OpenSpec := { _root_.Go.OpenSpec.ofChange s with cond := some uptoSmall }

/-- 'vestibulelaw22.LowerFilters', WHERE WHAT IT READS IS OF BULK AT MOST 1048576: true; the input reads as it did. -/
def lowerFiltersUptoRow : OpenClaim := { program := "ytpopmjgimhmciaa", sum := "40808bbcf4213cf7be3d641d66f205ed616b4e4ce5530f81500d8fe33a0e577b", func := "vestibule/vestibulelaw22.LowerFilters", spec := "lowerFilters", unfollowed := true, recurses := true, apart := false, narrowed := true }
def LowerFiltersUptoSaid : Prop := lowerFiltersUptoRow.holds Try.pinned (OpenSpec.upto lowerFiltersSpec)

/-- 'vestibulelaw22.LowerAll', WHERE WHAT IT READS IS OF BULK AT MOST 1048576: true; the input reads as it did. -/
def lowerAllUptoRow : OpenClaim := { program := "ytpopmjgimhmciaa", sum := "40808bbcf4213cf7be3d641d66f205ed616b4e4ce5530f81500d8fe33a0e577b", func := "vestibule/vestibulelaw22.LowerAll", spec := "lowerAll", unfollowed := true, recurses := true, apart := false, narrowed := true }
def LowerAllUptoSaid : Prop := lowerAllUptoRow.holds Try.pinned (OpenSpec.upto lowerAllSpec)

/-- 'vestibulelaw22.LowerAlone', WHERE WHAT IT READS IS OF BULK AT MOST 1048576: true; the input reads as it did. -/
def lowerAloneUptoRow : OpenClaim := { program := "ytpopmjgimhmciaa", sum := "40808bbcf4213cf7be3d641d66f205ed616b4e4ce5530f81500d8fe33a0e577b", func := "vestibule/vestibulelaw22.LowerAlone", spec := "lowerAlone", unfollowed := true, recurses := true, apart := false, narrowed := true }
def LowerAloneUptoSaid : Prop := lowerAloneUptoRow.holds Try.pinned (OpenSpec.upto lowerAloneSpec)

/-- 'vestibulelaw22.LowerMay', WHERE WHAT IT READS IS OF BULK AT MOST 1048576: true; the input reads as it did. -/
def lowerMayUptoRow : OpenClaim := { program := "ytpopmjgimhmciaa", sum := "40808bbcf4213cf7be3d641d66f205ed616b4e4ce5530f81500d8fe33a0e577b", func := "vestibule/vestibulelaw22.LowerMay", spec := "lowerMay", unfollowed := true, recurses := true, apart := false, narrowed := true }
def LowerMayUptoSaid : Prop := lowerMayUptoRow.holds Try.pinned (OpenSpec.upto lowerMaySpec)

end Rows
end Go.Proofs.Ytpopmjgimhmciaa
