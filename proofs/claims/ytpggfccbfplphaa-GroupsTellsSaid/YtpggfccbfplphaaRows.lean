/-
  No cell of these rows narrows 'for every input' (looked for: loops, veiled, ifaces, maps, wideKeys, modest, calm, conditions, laid).
  DERIVED. THE GIVEN ROWS OF THIS SEAT. 8 by the template 'for every input the law returns true; each argument reads behind the call as it read before'; 0 by the template 'total and deterministic' (their statements: YtpggfccbfplphaaTotals.lean).
  GIVEN WITH THE SEED: the statements are not yours to turn. If you find one false, say at which input.
  Laid BY PROGRAM, IN A SANDBOX (cutbox-rows.mjs): the forced cells as the released guide's own fill.sh prints them over the translation 1e0a35b6d844076b… (all of the seat's roots in one cut). By AI agents, Wed Nov 11 2026. No macro, syntax, notation, axiom, sorry.
-/
import Derived.Test.YtpggfccbfplphaaChecked
import GoSem.Claim
import GoSem.ClaimJoined
import GoSem.ClaimMapViews
import Derived.JoinedTies
import Derived.KernelRfl
namespace Go.Proofs.Ytpggfccbfplphaa
/- THE CELL 'sum', in the pinned program and in every row, IS THE sha256 OF THE DUMP (.gsa) THAT YtpggfccbfplphaaProg.lean LOADS. Nothing in Lean hashes anything: it is a label: what it is worth is what the hold of that sum in a sandbox is worth. -/
noncomputable def Try.pinned : Pinned := { name := "ytpggfccbfplphaa", sum := "1e0a35b6d844076b5a79e40fc14eced92025f78cc90f4a81daa73ee2390dba97", checked := Try.checked }
namespace Rows
def none {H : Type} : Left H := { results := [], args := [] }

/-- 'vestibulelaw09.CallsTells': WHATEVER THE INPUT: true; the input reads as it did. -/
def callsTellsSpec : ChangeSpec := { name := "callsTells", fn := fun _ => fun
  | [d1, d2, d3] => { results := [.lit (.bool true)], args := [d1, d2, d3] }
  | _ => none }
def callsTellsRow : OpenClaim := { program := "ytpggfccbfplphaa", sum := "1e0a35b6d844076b5a79e40fc14eced92025f78cc90f4a81daa73ee2390dba97", func := "vestibule/vestibulelaw09.CallsTells", spec := "callsTells", unfollowed := true, recurses := true, apart := false }
def CallsTellsSaid : Prop := callsTellsRow.holds Try.pinned (OpenSpec.ofChange callsTellsSpec)

/-- ITS FALSE NEIGHBOUR: 'it returns false'. Refute it at one input. -/
def callsTellsWrong : ChangeSpec := { name := "callsTells", fn := fun _ => fun
  | [d1, d2, d3] => { results := [.lit (.bool false)], args := [d1, d2, d3] }
  | _ => none }
def CallsTellsWrongFalsely : Prop := callsTellsRow.holds Try.pinned (OpenSpec.ofChange callsTellsWrong)

/-- 'vestibulelaw09.CallsAll': WHATEVER THE INPUT: true; the input reads as it did. -/
def callsAllSpec : ChangeSpec := { name := "callsAll", fn := fun _ => fun
  | [d] => { results := [.lit (.bool true)], args := [d] }
  | _ => none }
def callsAllRow : OpenClaim := { program := "ytpggfccbfplphaa", sum := "1e0a35b6d844076b5a79e40fc14eced92025f78cc90f4a81daa73ee2390dba97", func := "vestibule/vestibulelaw09.CallsAll", spec := "callsAll", unfollowed := true, recurses := true, apart := false }
def CallsAllSaid : Prop := callsAllRow.holds Try.pinned (OpenSpec.ofChange callsAllSpec)

/-- ITS FALSE NEIGHBOUR: 'it returns false'. Refute it at one input. -/
def callsAllWrong : ChangeSpec := { name := "callsAll", fn := fun _ => fun
  | [d] => { results := [.lit (.bool false)], args := [d] }
  | _ => none }
def CallsAllWrongFalsely : Prop := callsAllRow.holds Try.pinned (OpenSpec.ofChange callsAllWrong)

/-- 'vestibulelaw09.CallsOne': WHATEVER THE INPUT: true; the input reads as it did. -/
def callsOneSpec : ChangeSpec := { name := "callsOne", fn := fun _ => fun
  | [d1, d2] => { results := [.lit (.bool true)], args := [d1, d2] }
  | _ => none }
def callsOneRow : OpenClaim := { program := "ytpggfccbfplphaa", sum := "1e0a35b6d844076b5a79e40fc14eced92025f78cc90f4a81daa73ee2390dba97", func := "vestibule/vestibulelaw09.CallsOne", spec := "callsOne", unfollowed := true, recurses := true, apart := false }
def CallsOneSaid : Prop := callsOneRow.holds Try.pinned (OpenSpec.ofChange callsOneSpec)

/-- ITS FALSE NEIGHBOUR: 'it returns false'. Refute it at one input. -/
def callsOneWrong : ChangeSpec := { name := "callsOne", fn := fun _ => fun
  | [d1, d2] => { results := [.lit (.bool false)], args := [d1, d2] }
  | _ => none }
def CallsOneWrongFalsely : Prop := callsOneRow.holds Try.pinned (OpenSpec.ofChange callsOneWrong)

/-- 'vestibulelaw09.CallsKnown': WHATEVER THE INPUT: true; the input reads as it did. -/
def callsKnownSpec : ChangeSpec := { name := "callsKnown", fn := fun _ => fun
  | [d1, d2] => { results := [.lit (.bool true)], args := [d1, d2] }
  | _ => none }
def callsKnownRow : OpenClaim := { program := "ytpggfccbfplphaa", sum := "1e0a35b6d844076b5a79e40fc14eced92025f78cc90f4a81daa73ee2390dba97", func := "vestibule/vestibulelaw09.CallsKnown", spec := "callsKnown", unfollowed := true, recurses := true, apart := false }
def CallsKnownSaid : Prop := callsKnownRow.holds Try.pinned (OpenSpec.ofChange callsKnownSpec)

/-- ITS FALSE NEIGHBOUR: 'it returns false'. Refute it at one input. -/
def callsKnownWrong : ChangeSpec := { name := "callsKnown", fn := fun _ => fun
  | [d1, d2] => { results := [.lit (.bool false)], args := [d1, d2] }
  | _ => none }
def CallsKnownWrongFalsely : Prop := callsKnownRow.holds Try.pinned (OpenSpec.ofChange callsKnownWrong)

/-- 'vestibulelaw11.GroupsExpands': WHATEVER THE INPUT: true; the input reads as it did. -/
def groupsExpandsSpec : ChangeSpec := { name := "groupsExpands", fn := fun _ => fun
  | [d] => { results := [.lit (.bool true)], args := [d] }
  | _ => none }
def groupsExpandsRow : OpenClaim := { program := "ytpggfccbfplphaa", sum := "1e0a35b6d844076b5a79e40fc14eced92025f78cc90f4a81daa73ee2390dba97", func := "vestibule/vestibulelaw11.GroupsExpands", spec := "groupsExpands", unfollowed := true, recurses := true, apart := false }
def GroupsExpandsSaid : Prop := groupsExpandsRow.holds Try.pinned (OpenSpec.ofChange groupsExpandsSpec)

/-- ITS FALSE NEIGHBOUR: 'it returns false'. Refute it at one input. -/
def groupsExpandsWrong : ChangeSpec := { name := "groupsExpands", fn := fun _ => fun
  | [d] => { results := [.lit (.bool false)], args := [d] }
  | _ => none }
def GroupsExpandsWrongFalsely : Prop := groupsExpandsRow.holds Try.pinned (OpenSpec.ofChange groupsExpandsWrong)

/-- 'vestibulelaw11.GroupsTells': WHATEVER THE INPUT: true; the input reads as it did. -/
def groupsTellsSpec : ChangeSpec := { name := "groupsTells", fn := fun _ => fun
  | [d] => { results := [.lit (.bool true)], args := [d] }
  | _ => none }
def groupsTellsRow : OpenClaim := { program := "ytpggfccbfplphaa", sum := "1e0a35b6d844076b5a79e40fc14eced92025f78cc90f4a81daa73ee2390dba97", func := "vestibule/vestibulelaw11.GroupsTells", spec := "groupsTells", unfollowed := true, recurses := true, apart := false }
def GroupsTellsSaid : Prop := groupsTellsRow.holds Try.pinned (OpenSpec.ofChange groupsTellsSpec)

/-- ITS FALSE NEIGHBOUR: 'it returns false'. Refute it at one input. -/
def groupsTellsWrong : ChangeSpec := { name := "groupsTells", fn := fun _ => fun
  | [d] => { results := [.lit (.bool false)], args := [d] }
  | _ => none }
def GroupsTellsWrongFalsely : Prop := groupsTellsRow.holds Try.pinned (OpenSpec.ofChange groupsTellsWrong)

/-- 'vestibulelaw11.GroupsCalls': WHATEVER THE INPUT: true; the input reads as it did. -/
def groupsCallsSpec : ChangeSpec := { name := "groupsCalls", fn := fun _ => fun
  | [d1, d2] => { results := [.lit (.bool true)], args := [d1, d2] }
  | _ => none }
def groupsCallsRow : OpenClaim := { program := "ytpggfccbfplphaa", sum := "1e0a35b6d844076b5a79e40fc14eced92025f78cc90f4a81daa73ee2390dba97", func := "vestibule/vestibulelaw11.GroupsCalls", spec := "groupsCalls", unfollowed := true, recurses := true, apart := false }
def GroupsCallsSaid : Prop := groupsCallsRow.holds Try.pinned (OpenSpec.ofChange groupsCallsSpec)

/-- ITS FALSE NEIGHBOUR: 'it returns false'. Refute it at one input. -/
def groupsCallsWrong : ChangeSpec := { name := "groupsCalls", fn := fun _ => fun
  | [d1, d2] => { results := [.lit (.bool false)], args := [d1, d2] }
  | _ => none }
def GroupsCallsWrongFalsely : Prop := groupsCallsRow.holds Try.pinned (OpenSpec.ofChange groupsCallsWrong)

/-- 'vestibulelaw11.GroupsNames': WHATEVER THE INPUT: true; the input reads as it did. -/
def groupsNamesSpec : ChangeSpec := { name := "groupsNames", fn := fun _ => fun
  | [d] => { results := [.lit (.bool true)], args := [d] }
  | _ => none }
def groupsNamesRow : OpenClaim := { program := "ytpggfccbfplphaa", sum := "1e0a35b6d844076b5a79e40fc14eced92025f78cc90f4a81daa73ee2390dba97", func := "vestibule/vestibulelaw11.GroupsNames", spec := "groupsNames", unfollowed := true, recurses := true, apart := false }
def GroupsNamesSaid : Prop := groupsNamesRow.holds Try.pinned (OpenSpec.ofChange groupsNamesSpec)

/-- ITS FALSE NEIGHBOUR: 'it returns false'. Refute it at one input. -/
def groupsNamesWrong : ChangeSpec := { name := "groupsNames", fn := fun _ => fun
  | [d] => { results := [.lit (.bool false)], args := [d] }
  | _ => none }
def GroupsNamesWrongFalsely : Prop := groupsNamesRow.holds Try.pinned (OpenSpec.ofChange groupsNamesWrong)

/- THE SECOND FORM. 'bulk': how many values and letters a reading holds, each counted each time it is reached (what is shared counts as often as it is met; a slice's spare places count too). A statement '..UptoSaid' is the law's where the arguments, and the package variables that the reading takes, are together of bulk at most 1048576: NARROWER than '..Said'. Prove '..Said' where nothing that the law and all that it calls make is longer than what came in: it says more and counts as full. Else prove '..UptoSaid'. A law counts once. -/
mutual
def uptoBulk {H : Type} : DataW H → Nat
  | .lit (.string bytes) => bytes.length + 1
  | .lit _ => 1
  | .nil => 1
  | .ptr d => uptoBulk d + 1
  | .slice elems spare => uptoBulkAll elems + uptoBulkAll spare + 1
  | .agg parts => uptoBulkAll parts + 1
  | .iface _ d => uptoBulk d + 1
  | .map entries => uptoBulkEntries entries + 1
  | .held _ => 1
def uptoBulkAll {H : Type} : List (DataW H) → Nat
  | [] => 0
  | d :: r => uptoBulk d + uptoBulkAll r
def uptoBulkEntries {H : Type} : List (Lit × DataW H) → Nat
  | [] => 0
  | x :: r => uptoBulkEntry x + uptoBulkEntries r
def uptoBulkEntry {H : Type} : Lit × DataW H → Nat
  | (.string bytes, d) => bytes.length + uptoBulk d + 1
  | (_, d) => uptoBulk d + 1
 end
def uptoSmall : (H : Type) → List (DataW H) → Bool := fun _ ds => decide (uptoBulkAll ds ≤ 1048576)
def OpenSpec.upto (s : _root_.Go.ChangeSpec) : _root_.Go.OpenSpec := { _root_.Go.OpenSpec.ofChange s with cond := some uptoSmall }

/-- 'vestibulelaw09.CallsTells', WHERE WHAT IT READS IS OF BULK AT MOST 1048576: true; the input reads as it did. -/
def callsTellsUptoRow : OpenClaim := { program := "ytpggfccbfplphaa", sum := "1e0a35b6d844076b5a79e40fc14eced92025f78cc90f4a81daa73ee2390dba97", func := "vestibule/vestibulelaw09.CallsTells", spec := "callsTells", unfollowed := true, recurses := true, apart := false, narrowed := true }
def CallsTellsUptoSaid : Prop := callsTellsUptoRow.holds Try.pinned (OpenSpec.upto callsTellsSpec)

/-- 'vestibulelaw09.CallsAll', WHERE WHAT IT READS IS OF BULK AT MOST 1048576: true; the input reads as it did. -/
def callsAllUptoRow : OpenClaim := { program := "ytpggfccbfplphaa", sum := "1e0a35b6d844076b5a79e40fc14eced92025f78cc90f4a81daa73ee2390dba97", func := "vestibule/vestibulelaw09.CallsAll", spec := "callsAll", unfollowed := true, recurses := true, apart := false, narrowed := true }
def CallsAllUptoSaid : Prop := callsAllUptoRow.holds Try.pinned (OpenSpec.upto callsAllSpec)

/-- 'vestibulelaw09.CallsOne', WHERE WHAT IT READS IS OF BULK AT MOST 1048576: true; the input reads as it did. -/
def callsOneUptoRow : OpenClaim := { program := "ytpggfccbfplphaa", sum := "1e0a35b6d844076b5a79e40fc14eced92025f78cc90f4a81daa73ee2390dba97", func := "vestibule/vestibulelaw09.CallsOne", spec := "callsOne", unfollowed := true, recurses := true, apart := false, narrowed := true }
def CallsOneUptoSaid : Prop := callsOneUptoRow.holds Try.pinned (OpenSpec.upto callsOneSpec)

/-- 'vestibulelaw09.CallsKnown', WHERE WHAT IT READS IS OF BULK AT MOST 1048576: true; the input reads as it did. -/
def callsKnownUptoRow : OpenClaim := { program := "ytpggfccbfplphaa", sum := "1e0a35b6d844076b5a79e40fc14eced92025f78cc90f4a81daa73ee2390dba97", func := "vestibule/vestibulelaw09.CallsKnown", spec := "callsKnown", unfollowed := true, recurses := true, apart := false, narrowed := true }
def CallsKnownUptoSaid : Prop := callsKnownUptoRow.holds Try.pinned (OpenSpec.upto callsKnownSpec)

/-- 'vestibulelaw11.GroupsExpands', WHERE WHAT IT READS IS OF BULK AT MOST 1048576: true; the input reads as it did. -/
def groupsExpandsUptoRow : OpenClaim := { program := "ytpggfccbfplphaa", sum := "1e0a35b6d844076b5a79e40fc14eced92025f78cc90f4a81daa73ee2390dba97", func := "vestibule/vestibulelaw11.GroupsExpands", spec := "groupsExpands", unfollowed := true, recurses := true, apart := false, narrowed := true }
def GroupsExpandsUptoSaid : Prop := groupsExpandsUptoRow.holds Try.pinned (OpenSpec.upto groupsExpandsSpec)

/-- 'vestibulelaw11.GroupsTells', WHERE WHAT IT READS IS OF BULK AT MOST 1048576: true; the input reads as it did. -/
def groupsTellsUptoRow : OpenClaim := { program := "ytpggfccbfplphaa", sum := "1e0a35b6d844076b5a79e40fc14eced92025f78cc90f4a81daa73ee2390dba97", func := "vestibule/vestibulelaw11.GroupsTells", spec := "groupsTells", unfollowed := true, recurses := true, apart := false, narrowed := true }
def GroupsTellsUptoSaid : Prop := groupsTellsUptoRow.holds Try.pinned (OpenSpec.upto groupsTellsSpec)

/-- 'vestibulelaw11.GroupsCalls', WHERE WHAT IT READS IS OF BULK AT MOST 1048576: true; the input reads as it did. -/
def groupsCallsUptoRow : OpenClaim := { program := "ytpggfccbfplphaa", sum := "1e0a35b6d844076b5a79e40fc14eced92025f78cc90f4a81daa73ee2390dba97", func := "vestibule/vestibulelaw11.GroupsCalls", spec := "groupsCalls", unfollowed := true, recurses := true, apart := false, narrowed := true }
def GroupsCallsUptoSaid : Prop := groupsCallsUptoRow.holds Try.pinned (OpenSpec.upto groupsCallsSpec)

/-- 'vestibulelaw11.GroupsNames', WHERE WHAT IT READS IS OF BULK AT MOST 1048576: true; the input reads as it did. -/
def groupsNamesUptoRow : OpenClaim := { program := "ytpggfccbfplphaa", sum := "1e0a35b6d844076b5a79e40fc14eced92025f78cc90f4a81daa73ee2390dba97", func := "vestibule/vestibulelaw11.GroupsNames", spec := "groupsNames", unfollowed := true, recurses := true, apart := false, narrowed := true }
def GroupsNamesUptoSaid : Prop := groupsNamesUptoRow.holds Try.pinned (OpenSpec.upto groupsNamesSpec)

end Rows
end Go.Proofs.Ytpggfccbfplphaa
