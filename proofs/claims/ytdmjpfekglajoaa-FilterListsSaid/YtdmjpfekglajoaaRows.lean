/-
  No cell of these rows narrows 'for every input' (looked for: loops, veiled, ifaces, maps, wideKeys, modest, calm, conditions, laid).
  DERIVED. THE GIVEN ROWS OF THIS SEAT. 8 by the template 'for every input the law returns true; each argument reads behind the call as it read before'; 0 by the template 'total and deterministic' (their statements: YtdmjpfekglajoaaTotals.lean).
  GIVEN WITH THE SEED: the statements are not yours to turn. If you find one false, say at which input.
  Laid BY PROGRAM, IN A SANDBOX (cutbox-rows.mjs): the forced cells as the released guide's own fill.sh prints them over the translation cb56118a274ae1ed… (all of the seat's roots in one cut). By AI agents, Wed Nov 11 2026. No macro, syntax, notation, axiom, sorry.
-/
import Derived.Test.YtdmjpfekglajoaaChecked
import GoSem.Claim
import GoSem.ClaimJoined
import GoSem.ClaimMapViews
import Derived.JoinedTies
import Derived.KernelRfl
namespace Go.Proofs.Ytdmjpfekglajoaa
/- THE CELL 'sum', in the pinned program and in every row, IS THE sha256 OF THE DUMP (.gsa) THAT YtdmjpfekglajoaaProg.lean LOADS. Nothing in Lean hashes anything: it is a label: what it is worth is what the hold of that sum in a sandbox is worth. -/
noncomputable def Try.pinned : Pinned := { name := "ytdmjpfekglajoaa", sum := "cb56118a274ae1edb043448f20f17ff90ab93e68ad850c13b48b7ab822710ccd", checked := Try.checked }
namespace Rows
def none {H : Type} : Left H := { results := [], args := [] }

/-- 'vestibulelaw16.FoldKeeps': WHATEVER THE INPUT: true; the input reads as it did. -/
def foldKeepsSpec : ChangeSpec := { name := "foldKeeps", fn := fun _ => fun
  | [d1, d2, d3] => { results := [.lit (.bool true)], args := [d1, d2, d3] }
  | _ => none }
def foldKeepsRow : OpenClaim := { program := "ytdmjpfekglajoaa", sum := "cb56118a274ae1edb043448f20f17ff90ab93e68ad850c13b48b7ab822710ccd", func := "vestibule/vestibulelaw16.FoldKeeps", spec := "foldKeeps", inPlace := ["internal/bytealg.IndexByteString", "internal/bytealg.IndexString", "internal/bytealg.abigen_runtime_cmpstring", "slices.overlaps[vestibule/api.Call]"], unfollowed := true, recurses := true, named := ["internal/bytealg.MaxLen"], apart := false }
def FoldKeepsSaid : Prop := foldKeepsRow.holds Try.pinned (OpenSpec.ofChange foldKeepsSpec)

/-- ITS FALSE NEIGHBOUR: 'it returns false'. Refute it at one input. -/
def foldKeepsWrong : ChangeSpec := { name := "foldKeeps", fn := fun _ => fun
  | [d1, d2, d3] => { results := [.lit (.bool false)], args := [d1, d2, d3] }
  | _ => none }
def FoldKeepsWrongFalsely : Prop := foldKeepsRow.holds Try.pinned (OpenSpec.ofChange foldKeepsWrong)

/-- 'vestibulelaw16.FoldTwice': WHATEVER THE INPUT: true; the input reads as it did. -/
def foldTwiceSpec : ChangeSpec := { name := "foldTwice", fn := fun _ => fun
  | [d1, d2, d3] => { results := [.lit (.bool true)], args := [d1, d2, d3] }
  | _ => none }
def foldTwiceRow : OpenClaim := { program := "ytdmjpfekglajoaa", sum := "cb56118a274ae1edb043448f20f17ff90ab93e68ad850c13b48b7ab822710ccd", func := "vestibule/vestibulelaw16.FoldTwice", spec := "foldTwice", inPlace := ["internal/bytealg.IndexByteString", "internal/bytealg.IndexString", "internal/bytealg.abigen_runtime_cmpstring", "slices.overlaps[vestibule/api.Call]"], unfollowed := true, recurses := true, named := ["internal/bytealg.MaxLen"], apart := false }
def FoldTwiceSaid : Prop := foldTwiceRow.holds Try.pinned (OpenSpec.ofChange foldTwiceSpec)

/-- ITS FALSE NEIGHBOUR: 'it returns false'. Refute it at one input. -/
def foldTwiceWrong : ChangeSpec := { name := "foldTwice", fn := fun _ => fun
  | [d1, d2, d3] => { results := [.lit (.bool false)], args := [d1, d2, d3] }
  | _ => none }
def FoldTwiceWrongFalsely : Prop := foldTwiceRow.holds Try.pinned (OpenSpec.ofChange foldTwiceWrong)

/-- 'vestibulelaw16.FoldOne': WHATEVER THE INPUT: true; the input reads as it did. -/
def foldOneSpec : ChangeSpec := { name := "foldOne", fn := fun _ => fun
  | [d1, d2, d3, d4, d5] => { results := [.lit (.bool true)], args := [d1, d2, d3, d4, d5] }
  | _ => none }
def foldOneRow : OpenClaim := { program := "ytdmjpfekglajoaa", sum := "cb56118a274ae1edb043448f20f17ff90ab93e68ad850c13b48b7ab822710ccd", func := "vestibule/vestibulelaw16.FoldOne", spec := "foldOne", inPlace := ["internal/bytealg.IndexByteString", "internal/bytealg.IndexString", "internal/bytealg.abigen_runtime_cmpstring", "slices.overlaps[vestibule/api.Call]"], unfollowed := true, recurses := true, named := ["internal/bytealg.MaxLen"], apart := false }
def FoldOneSaid : Prop := foldOneRow.holds Try.pinned (OpenSpec.ofChange foldOneSpec)

/-- ITS FALSE NEIGHBOUR: 'it returns false'. Refute it at one input. -/
def foldOneWrong : ChangeSpec := { name := "foldOne", fn := fun _ => fun
  | [d1, d2, d3, d4, d5] => { results := [.lit (.bool false)], args := [d1, d2, d3, d4, d5] }
  | _ => none }
def FoldOneWrongFalsely : Prop := foldOneRow.holds Try.pinned (OpenSpec.ofChange foldOneWrong)

/-- 'vestibulelaw17.FilterKeys': WHATEVER THE INPUT: true; the input reads as it did. -/
def filterKeysSpec : ChangeSpec := { name := "filterKeys", fn := fun _ => fun
  | [d1, d2] => { results := [.lit (.bool true)], args := [d1, d2] }
  | _ => none }
def filterKeysRow : OpenClaim := { program := "ytdmjpfekglajoaa", sum := "cb56118a274ae1edb043448f20f17ff90ab93e68ad850c13b48b7ab822710ccd", func := "vestibule/vestibulelaw17.FilterKeys", spec := "filterKeys", inPlace := ["internal/bytealg.IndexByteString", "internal/bytealg.IndexString", "internal/bytealg.abigen_runtime_cmpstring", "slices.overlaps[vestibule/api.Call]"], unfollowed := true, recurses := true, named := ["internal/bytealg.MaxLen"], apart := false }
def FilterKeysSaid : Prop := filterKeysRow.holds Try.pinned (OpenSpec.ofChange filterKeysSpec)

/-- ITS FALSE NEIGHBOUR: 'it returns false'. Refute it at one input. -/
def filterKeysWrong : ChangeSpec := { name := "filterKeys", fn := fun _ => fun
  | [d1, d2] => { results := [.lit (.bool false)], args := [d1, d2] }
  | _ => none }
def FilterKeysWrongFalsely : Prop := filterKeysRow.holds Try.pinned (OpenSpec.ofChange filterKeysWrong)

/-- 'vestibulelaw17.FilterOwn': WHATEVER THE INPUT: true; the input reads as it did. -/
def filterOwnSpec : ChangeSpec := { name := "filterOwn", fn := fun _ => fun
  | [d1, d2] => { results := [.lit (.bool true)], args := [d1, d2] }
  | _ => none }
def filterOwnRow : OpenClaim := { program := "ytdmjpfekglajoaa", sum := "cb56118a274ae1edb043448f20f17ff90ab93e68ad850c13b48b7ab822710ccd", func := "vestibule/vestibulelaw17.FilterOwn", spec := "filterOwn", inPlace := ["internal/bytealg.IndexByteString", "internal/bytealg.IndexString", "internal/bytealg.abigen_runtime_cmpstring", "slices.overlaps[vestibule/api.Call]"], unfollowed := true, recurses := true, named := ["internal/bytealg.MaxLen"], apart := false }
def FilterOwnSaid : Prop := filterOwnRow.holds Try.pinned (OpenSpec.ofChange filterOwnSpec)

/-- ITS FALSE NEIGHBOUR: 'it returns false'. Refute it at one input. -/
def filterOwnWrong : ChangeSpec := { name := "filterOwn", fn := fun _ => fun
  | [d1, d2] => { results := [.lit (.bool false)], args := [d1, d2] }
  | _ => none }
def FilterOwnWrongFalsely : Prop := filterOwnRow.holds Try.pinned (OpenSpec.ofChange filterOwnWrong)

/-- 'vestibulelaw17.FilterLists': WHATEVER THE INPUT: true; the input reads as it did. -/
def filterListsSpec : ChangeSpec := { name := "filterLists", fn := fun _ => fun
  | [d1, d2] => { results := [.lit (.bool true)], args := [d1, d2] }
  | _ => none }
def filterListsRow : OpenClaim := { program := "ytdmjpfekglajoaa", sum := "cb56118a274ae1edb043448f20f17ff90ab93e68ad850c13b48b7ab822710ccd", func := "vestibule/vestibulelaw17.FilterLists", spec := "filterLists", inPlace := ["internal/bytealg.IndexByteString", "internal/bytealg.IndexString", "internal/bytealg.abigen_runtime_cmpstring", "slices.overlaps[vestibule/api.Call]"], unfollowed := true, recurses := true, named := ["internal/bytealg.MaxLen"], apart := false }
def FilterListsSaid : Prop := filterListsRow.holds Try.pinned (OpenSpec.ofChange filterListsSpec)

/-- ITS FALSE NEIGHBOUR: 'it returns false'. Refute it at one input. -/
def filterListsWrong : ChangeSpec := { name := "filterLists", fn := fun _ => fun
  | [d1, d2] => { results := [.lit (.bool false)], args := [d1, d2] }
  | _ => none }
def FilterListsWrongFalsely : Prop := filterListsRow.holds Try.pinned (OpenSpec.ofChange filterListsWrong)

/-- 'vestibulelaw18.RestrictOwn': WHATEVER THE INPUT: true; the input reads as it did. -/
def restrictOwnSpec : ChangeSpec := { name := "restrictOwn", fn := fun _ => fun
  | [d1, d2] => { results := [.lit (.bool true)], args := [d1, d2] }
  | _ => none }
def restrictOwnRow : OpenClaim := { program := "ytdmjpfekglajoaa", sum := "cb56118a274ae1edb043448f20f17ff90ab93e68ad850c13b48b7ab822710ccd", func := "vestibule/vestibulelaw18.RestrictOwn", spec := "restrictOwn", inPlace := ["slices.overlaps[int]", "slices.overlaps[uint32]"], unfollowed := true, recurses := true, apart := false }
def RestrictOwnSaid : Prop := restrictOwnRow.holds Try.pinned (OpenSpec.ofChange restrictOwnSpec)

/-- ITS FALSE NEIGHBOUR: 'it returns false'. Refute it at one input. -/
def restrictOwnWrong : ChangeSpec := { name := "restrictOwn", fn := fun _ => fun
  | [d1, d2] => { results := [.lit (.bool false)], args := [d1, d2] }
  | _ => none }
def RestrictOwnWrongFalsely : Prop := restrictOwnRow.holds Try.pinned (OpenSpec.ofChange restrictOwnWrong)

/-- 'vestibulelaw18.RestrictSpaces': WHATEVER THE INPUT: true; the input reads as it did. -/
def restrictSpacesSpec : ChangeSpec := { name := "restrictSpaces", fn := fun _ => fun
  | [d] => { results := [.lit (.bool true)], args := [d] }
  | _ => none }
def restrictSpacesRow : OpenClaim := { program := "ytdmjpfekglajoaa", sum := "cb56118a274ae1edb043448f20f17ff90ab93e68ad850c13b48b7ab822710ccd", func := "vestibule/vestibulelaw18.RestrictSpaces", spec := "restrictSpaces", inPlace := ["slices.overlaps[int]", "slices.overlaps[uint32]"], unfollowed := true, recurses := true, apart := false }
def RestrictSpacesSaid : Prop := restrictSpacesRow.holds Try.pinned (OpenSpec.ofChange restrictSpacesSpec)

/-- ITS FALSE NEIGHBOUR: 'it returns false'. Refute it at one input. -/
def restrictSpacesWrong : ChangeSpec := { name := "restrictSpaces", fn := fun _ => fun
  | [d] => { results := [.lit (.bool false)], args := [d] }
  | _ => none }
def RestrictSpacesWrongFalsely : Prop := restrictSpacesRow.holds Try.pinned (OpenSpec.ofChange restrictSpacesWrong)

/- THE SECOND FORM. 'bulk': how many values and letters a reading holds, each counted each time it is reached (what is shared counts as often as it is met; a slice's spare places count too). A statement '..UptoSaid' is the law's where the arguments, and the package variables that the reading takes, are together of bulk at most 1048576: NARROWER than '..Said'. Prove '..Said' where nothing that the law and all that it calls make is longer than what came in: it says more and counts as full. Else prove '..UptoSaid'. A law counts once. -/
mutual
def uptoBulk {H : Type} : DataW H → Nat
  | .lit (.string bytes) => bytes.length + 1
  | .lit _ => 1
  | .nil => 1
  | .ptr d => uptoBulk d + 1
  | .slice elems spare => uptoBulkAll elems + uptoBulkAll spare + 1
  | .agg parts => uptoBulkAll parts + 1
  | .iface _ d => uptoBulk d + 1
  | .map entries => uptoBulkEntries entries + 1
  | .held _ => 1
def uptoBulkAll {H : Type} : List (DataW H) → Nat
  | [] => 0
  | d :: r => uptoBulk d + uptoBulkAll r
def uptoBulkEntries {H : Type} : List (Lit × DataW H) → Nat
  | [] => 0
  | x :: r => uptoBulkEntry x + uptoBulkEntries r
def uptoBulkEntry {H : Type} : Lit × DataW H → Nat
  | (.string bytes, d) => bytes.length + uptoBulk d + 1
  | (_, d) => uptoBulk d + 1
 end
def uptoSmall : (H : Type) → List (DataW H) → Bool := fun _ ds => decide (uptoBulkAll ds ≤ 1048576)
def OpenSpec.upto (s : _root_.Go.ChangeSpec) : _root_.Go.OpenSpec := { _root_.Go.OpenSpec.ofChange s with cond := some uptoSmall }

/-- 'vestibulelaw16.FoldKeeps', WHERE WHAT IT READS IS OF BULK AT MOST 1048576: true; the input reads as it did. -/
def foldKeepsUptoRow : OpenClaim := { program := "ytdmjpfekglajoaa", sum := "cb56118a274ae1edb043448f20f17ff90ab93e68ad850c13b48b7ab822710ccd", func := "vestibule/vestibulelaw16.FoldKeeps", spec := "foldKeeps", inPlace := ["internal/bytealg.IndexByteString", "internal/bytealg.IndexString", "internal/bytealg.abigen_runtime_cmpstring", "slices.overlaps[vestibule/api.Call]"], unfollowed := true, recurses := true, named := ["internal/bytealg.MaxLen"], apart := false, narrowed := true }
def FoldKeepsUptoSaid : Prop := foldKeepsUptoRow.holds Try.pinned (OpenSpec.upto foldKeepsSpec)

/-- 'vestibulelaw16.FoldTwice', WHERE WHAT IT READS IS OF BULK AT MOST 1048576: true; the input reads as it did. -/
def foldTwiceUptoRow : OpenClaim := { program := "ytdmjpfekglajoaa", sum := "cb56118a274ae1edb043448f20f17ff90ab93e68ad850c13b48b7ab822710ccd", func := "vestibule/vestibulelaw16.FoldTwice", spec := "foldTwice", inPlace := ["internal/bytealg.IndexByteString", "internal/bytealg.IndexString", "internal/bytealg.abigen_runtime_cmpstring", "slices.overlaps[vestibule/api.Call]"], unfollowed := true, recurses := true, named := ["internal/bytealg.MaxLen"], apart := false, narrowed := true }
def FoldTwiceUptoSaid : Prop := foldTwiceUptoRow.holds Try.pinned (OpenSpec.upto foldTwiceSpec)

/-- 'vestibulelaw16.FoldOne', WHERE WHAT IT READS IS OF BULK AT MOST 1048576: true; the input reads as it did. -/
def foldOneUptoRow : OpenClaim := { program := "ytdmjpfekglajoaa", sum := "cb56118a274ae1edb043448f20f17ff90ab93e68ad850c13b48b7ab822710ccd", func := "vestibule/vestibulelaw16.FoldOne", spec := "foldOne", inPlace := ["internal/bytealg.IndexByteString", "internal/bytealg.IndexString", "internal/bytealg.abigen_runtime_cmpstring", "slices.overlaps[vestibule/api.Call]"], unfollowed := true, recurses := true, named := ["internal/bytealg.MaxLen"], apart := false, narrowed := true }
def FoldOneUptoSaid : Prop := foldOneUptoRow.holds Try.pinned (OpenSpec.upto foldOneSpec)

/-- 'vestibulelaw17.FilterKeys', WHERE WHAT IT READS IS OF BULK AT MOST 1048576: true; the input reads as it did. -/
def filterKeysUptoRow : OpenClaim := { program := "ytdmjpfekglajoaa", sum := "cb56118a274ae1edb043448f20f17ff90ab93e68ad850c13b48b7ab822710ccd", func := "vestibule/vestibulelaw17.FilterKeys", spec := "filterKeys", inPlace := ["internal/bytealg.IndexByteString", "internal/bytealg.IndexString", "internal/bytealg.abigen_runtime_cmpstring", "slices.overlaps[vestibule/api.Call]"], unfollowed := true, recurses := true, named := ["internal/bytealg.MaxLen"], apart := false, narrowed := true }
def FilterKeysUptoSaid : Prop := filterKeysUptoRow.holds Try.pinned (OpenSpec.upto filterKeysSpec)

/-- 'vestibulelaw17.FilterOwn', WHERE WHAT IT READS IS OF BULK AT MOST 1048576: true; the input reads as it did. -/
def filterOwnUptoRow : OpenClaim := { program := "ytdmjpfekglajoaa", sum := "cb56118a274ae1edb043448f20f17ff90ab93e68ad850c13b48b7ab822710ccd", func := "vestibule/vestibulelaw17.FilterOwn", spec := "filterOwn", inPlace := ["internal/bytealg.IndexByteString", "internal/bytealg.IndexString", "internal/bytealg.abigen_runtime_cmpstring", "slices.overlaps[vestibule/api.Call]"], unfollowed := true, recurses := true, named := ["internal/bytealg.MaxLen"], apart := false, narrowed := true }
def FilterOwnUptoSaid : Prop := filterOwnUptoRow.holds Try.pinned (OpenSpec.upto filterOwnSpec)

/-- 'vestibulelaw17.FilterLists', WHERE WHAT IT READS IS OF BULK AT MOST 1048576: true; the input reads as it did. -/
def filterListsUptoRow : OpenClaim := { program := "ytdmjpfekglajoaa", sum := "cb56118a274ae1edb043448f20f17ff90ab93e68ad850c13b48b7ab822710ccd", func := "vestibule/vestibulelaw17.FilterLists", spec := "filterLists", inPlace := ["internal/bytealg.IndexByteString", "internal/bytealg.IndexString", "internal/bytealg.abigen_runtime_cmpstring", "slices.overlaps[vestibule/api.Call]"], unfollowed := true, recurses := true, named := ["internal/bytealg.MaxLen"], apart := false, narrowed := true }
def FilterListsUptoSaid : Prop := filterListsUptoRow.holds Try.pinned (OpenSpec.upto filterListsSpec)

/-- 'vestibulelaw18.RestrictOwn', WHERE WHAT IT READS IS OF BULK AT MOST 1048576: true; the input reads as it did. -/
def restrictOwnUptoRow : OpenClaim := { program := "ytdmjpfekglajoaa", sum := "cb56118a274ae1edb043448f20f17ff90ab93e68ad850c13b48b7ab822710ccd", func := "vestibule/vestibulelaw18.RestrictOwn", spec := "restrictOwn", inPlace := ["slices.overlaps[int]", "slices.overlaps[uint32]"], unfollowed := true, recurses := true, apart := false, narrowed := true }
def RestrictOwnUptoSaid : Prop := restrictOwnUptoRow.holds Try.pinned (OpenSpec.upto restrictOwnSpec)

/-- 'vestibulelaw18.RestrictSpaces', WHERE WHAT IT READS IS OF BULK AT MOST 1048576: true; the input reads as it did. -/
def restrictSpacesUptoRow : OpenClaim := { program := "ytdmjpfekglajoaa", sum := "cb56118a274ae1edb043448f20f17ff90ab93e68ad850c13b48b7ab822710ccd", func := "vestibule/vestibulelaw18.RestrictSpaces", spec := "restrictSpaces", inPlace := ["slices.overlaps[int]", "slices.overlaps[uint32]"], unfollowed := true, recurses := true, apart := false, narrowed := true }
def RestrictSpacesUptoSaid : Prop := restrictSpacesUptoRow.holds Try.pinned (OpenSpec.upto restrictSpacesSpec)

end Rows
end Go.Proofs.Ytdmjpfekglajoaa
