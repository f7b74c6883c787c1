/-
  No cell of these rows narrows 'for every input' (looked for: loops, veiled, ifaces, maps, wideKeys, modest, calm, conditions, laid).
  DERIVED. THE GIVEN ROWS OF THIS SEAT. 4 by the template 'for every input the law returns true; each argument reads behind the call as it read before'; 0 by the template 'total and deterministic' (their statements: YtbcpapkjdphfpaaTotals.lean).
  GIVEN WITH THE SEED: the statements are not yours to turn. If you find one false, say at which input.
  Laid BY PROGRAM, IN A SANDBOX (cutbox-rows.mjs): the forced cells as the released guide's own fill.sh prints them over the translation 17855ca284acb785… (all of the seat's roots in one cut). By AI agents, Wed Nov 11 2026. No macro, syntax, notation, axiom, sorry.
-/
import Derived.Test.YtbcpapkjdphfpaaChecked
import GoSem.Claim
import GoSem.ClaimJoined
import GoSem.ClaimMapViews
import Derived.JoinedTies
import Derived.KernelRfl
namespace Go.Proofs.Ytbcpapkjdphfpaa
/- THE CELL 'sum', in the pinned program and in every row, IS THE sha256 OF THE DUMP (.gsa) THAT YtbcpapkjdphfpaaProg.lean LOADS. Nothing in Lean hashes anything: it is a label: what it is worth is what the hold of that sum in a sandbox is worth. -/
noncomputable def Try.pinned : Pinned := { name := "ytbcpapkjdphfpaa", sum := "17855ca284acb785ac7750e9e574449962dcb2b78698866f151f23f4c65cedfc", checked := Try.checked }
namespace Rows
def none {H : Type} : Left H := { results := [], args := [] }

/-- 'vestibulelaw18.RestrictKeys': WHATEVER THE INPUT: true; the input reads as it did. -/
def restrictKeysSpec : ChangeSpec := { name := "restrictKeys", fn := fun _ => fun
  | [d] => { results := [.lit (.bool true)], args := [d] }
  | _ => none }
def restrictKeysRow : OpenClaim := { program := "ytbcpapkjdphfpaa", sum := "17855ca284acb785ac7750e9e574449962dcb2b78698866f151f23f4c65cedfc", func := "vestibule/vestibulelaw18.RestrictKeys", spec := "restrictKeys", inPlace := ["slices.overlaps[int]", "slices.overlaps[uint32]"], unfollowed := true, recurses := true, apart := false }
def RestrictKeysSaid : Prop := restrictKeysRow.holds Try.pinned (OpenSpec.ofChange restrictKeysSpec)

/-- ITS FALSE NEIGHBOUR: 'it returns false'. Refute it at one input. -/
def restrictKeysWrong : ChangeSpec := { name := "restrictKeys", fn := fun _ => fun
  | [d] => { results := [.lit (.bool false)], args := [d] }
  | _ => none }
def RestrictKeysWrongFalsely : Prop := restrictKeysRow.holds Try.pinned (OpenSpec.ofChange restrictKeysWrong)

/-- 'vestibulelaw18.RestrictOwn': WHATEVER THE INPUT: true; the input reads as it did. -/
def restrictOwnSpec : ChangeSpec := { name := "restrictOwn", fn := fun _ => fun
  | [d1, d2] => { results := [.lit (.bool true)], args := [d1, d2] }
  | _ => none }
def restrictOwnRow : OpenClaim := { program := "ytbcpapkjdphfpaa", sum := "17855ca284acb785ac7750e9e574449962dcb2b78698866f151f23f4c65cedfc", func := "vestibule/vestibulelaw18.RestrictOwn", spec := "restrictOwn", inPlace := ["slices.overlaps[int]", "slices.overlaps[uint32]"], unfollowed := true, recurses := true, apart := false }
def RestrictOwnSaid : Prop := restrictOwnRow.holds Try.pinned (OpenSpec.ofChange restrictOwnSpec)

/-- ITS FALSE NEIGHBOUR: 'it returns false'. Refute it at one input. -/
def restrictOwnWrong : ChangeSpec := { name := "restrictOwn", fn := fun _ => fun
  | [d1, d2] => { results := [.lit (.bool false)], args := [d1, d2] }
  | _ => none }
def RestrictOwnWrongFalsely : Prop := restrictOwnRow.holds Try.pinned (OpenSpec.ofChange restrictOwnWrong)

/-- 'vestibulelaw18.RestrictSpaces': WHATEVER THE INPUT: true; the input reads as it did. -/
def restrictSpacesSpec : ChangeSpec := { name := "restrictSpaces", fn := fun _ => fun
  | [d] => { results := [.lit (.bool true)], args := [d] }
  | _ => none }
def restrictSpacesRow : OpenClaim := { program := "ytbcpapkjdphfpaa", sum := "17855ca284acb785ac7750e9e574449962dcb2b78698866f151f23f4c65cedfc", func := "vestibule/vestibulelaw18.RestrictSpaces", spec := "restrictSpaces", inPlace := ["slices.overlaps[int]", "slices.overlaps[uint32]"], unfollowed := true, recurses := true, apart := false }
def RestrictSpacesSaid : Prop := restrictSpacesRow.holds Try.pinned (OpenSpec.ofChange restrictSpacesSpec)

/-- ITS FALSE NEIGHBOUR: 'it returns false'. Refute it at one input. -/
def restrictSpacesWrong : ChangeSpec := { name := "restrictSpaces", fn := fun _ => fun
  | [d] => { results := [.lit (.bool false)], args := [d] }
  | _ => none }
def RestrictSpacesWrongFalsely : Prop := restrictSpacesRow.holds Try.pinned (OpenSpec.ofChange restrictSpacesWrong)

/-- 'vestibulelaw18.RestrictFamilies': WHATEVER THE INPUT: true; the input reads as it did. -/
def restrictFamiliesSpec : ChangeSpec := { name := "restrictFamilies", fn := fun _ => fun
  | [d1, d2] => { results := [.lit (.bool true)], args := [d1, d2] }
  | _ => none }
def restrictFamiliesRow : OpenClaim := { program := "ytbcpapkjdphfpaa", sum := "17855ca284acb785ac7750e9e574449962dcb2b78698866f151f23f4c65cedfc", func := "vestibule/vestibulelaw18.RestrictFamilies", spec := "restrictFamilies", inPlace := ["slices.overlaps[int]", "slices.overlaps[uint32]"], unfollowed := true, recurses := true, apart := false }
def RestrictFamiliesSaid : Prop := restrictFamiliesRow.holds Try.pinned (OpenSpec.ofChange restrictFamiliesSpec)

/-- ITS FALSE NEIGHBOUR: 'it returns false'. Refute it at one input. -/
def restrictFamiliesWrong : ChangeSpec := { name := "restrictFamilies", fn := fun _ => fun
  | [d1, d2] => { results := [.lit (.bool false)], args := [d1, d2] }
  | _ => none }
def RestrictFamiliesWrongFalsely : Prop := restrictFamiliesRow.holds Try.pinned (OpenSpec.ofChange restrictFamiliesWrong)

/- THE SECOND FORM. 'bulk': how many values and letters a reading holds, each counted each time it is reached (what is shared counts as often as it is met; a slice's spare places count too). A statement '..UptoSaid' is the law's where the arguments, and the package variables that the reading takes, are together of bulk at most 1048576: NARROWER than '..Said'. Prove '..Said' where nothing that the law and all that it calls make is longer than what came in: it says more and counts as full. Else prove '..UptoSaid'. A law counts once. -/
mutual
def uptoBulk {H : Type} : DataW H → Nat
  | .lit (.string bytes) => bytes.length + 1
  | .lit _ => 1
  | .nil => 1
  | .ptr d => uptoBulk d + 1
  | .slice elems spare => uptoBulkAll elems + uptoBulkAll spare + 1
  | .agg parts => uptoBulkAll parts + 1
  | .iface _ d => uptoBulk d + 1
  | .map entries => uptoBulkEntries entries + 1
  | .held _ => 1
def uptoBulkAll {H : Type} : List (DataW H) → Nat
  | [] => 0
  | d :: r => uptoBulk d + uptoBulkAll r
def uptoBulkEntries {H : Type} : List (Lit × DataW H) → Nat
  | [] => 0
  | x :: r => uptoBulkEntry x + uptoBulkEntries r
def uptoBulkEntry {H : Type} : Lit × DataW H → Nat
  | (.string bytes, d) => bytes.length + uptoBulk d + 1
  | (_, d) => uptoBulk d + 1
 end
def uptoSmall : (H : Type) → List (DataW H) → Bool := fun _ ds => decide (uptoBulkAll ds ≤ 1048576)
def OpenSpec.upto (s : _root_.Go.ChangeSpec) : _root_.Go.OpenSpec := { _root_.Go.OpenSpec.ofChange s with cond := some uptoSmall }

/-- 'vestibulelaw18.RestrictKeys', WHERE WHAT IT READS IS OF BULK AT MOST 1048576: true; the input reads as it did. -/
def restrictKeysUptoRow : OpenClaim := { program := "ytbcpapkjdphfpaa", sum := "17855ca284acb785ac7750e9e574449962dcb2b78698866f151f23f4c65cedfc", func := "vestibule/vestibulelaw18.RestrictKeys", spec := "restrictKeys", inPlace := ["slices.overlaps[int]", "slices.overlaps[uint32]"], unfollowed := true, recurses := true, apart := false, narrowed := true }
def RestrictKeysUptoSaid : Prop := restrictKeysUptoRow.holds Try.pinned (OpenSpec.upto restrictKeysSpec)

/-- 'vestibulelaw18.RestrictOwn', WHERE WHAT IT READS IS OF BULK AT MOST 1048576: true; the input reads as it did. -/
def restrictOwnUptoRow : OpenClaim := { program := "ytbcpapkjdphfpaa", sum := "17855ca284acb785ac7750e9e574449962dcb2b78698866f151f23f4c65cedfc", func := "vestibule/vestibulelaw18.RestrictOwn", spec := "restrictOwn", inPlace := ["slices.overlaps[int]", "slices.overlaps[uint32]"], unfollowed := true, recurses := true, apart := false, narrowed := true }
def RestrictOwnUptoSaid : Prop := restrictOwnUptoRow.holds Try.pinned (OpenSpec.upto restrictOwnSpec)

/-- 'vestibulelaw18.RestrictSpaces', WHERE WHAT IT READS IS OF BULK AT MOST 1048576: true; the input reads as it did. -/
def restrictSpacesUptoRow : OpenClaim := { program := "ytbcpapkjdphfpaa", sum := "17855ca284acb785ac7750e9e574449962dcb2b78698866f151f23f4c65cedfc", func := "vestibule/vestibulelaw18.RestrictSpaces", spec := "restrictSpaces", inPlace := ["slices.overlaps[int]", "slices.overlaps[uint32]"], unfollowed := true, recurses := true, apart := false, narrowed := true }
def RestrictSpacesUptoSaid : Prop := restrictSpacesUptoRow.holds Try.pinned (OpenSpec.upto restrictSpacesSpec)

/-- 'vestibulelaw18.RestrictFamilies', WHERE WHAT IT READS IS OF BULK AT MOST 1048576: true; the input reads as it did. -/
def restrictFamiliesUptoRow : OpenClaim := { program := "ytbcpapkjdphfpaa", sum := "17855ca284acb785ac7750e9e574449962dcb2b78698866f151f23f4c65cedfc", func := "vestibule/vestibulelaw18.RestrictFamilies", spec := "restrictFamilies", inPlace := ["slices.overlaps[int]", "slices.overlaps[uint32]"], unfollowed := true, recurses := true, apart := false, narrowed := true }
def RestrictFamiliesUptoSaid : Prop := restrictFamiliesUptoRow.holds Try.pinned (OpenSpec.upto restrictFamiliesSpec)

end Rows
end Go.Proofs.Ytbcpapkjdphfpaa
