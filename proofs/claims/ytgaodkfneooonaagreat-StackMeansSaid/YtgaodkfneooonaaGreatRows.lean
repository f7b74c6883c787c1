/-
  No cell of these rows narrows 'for every input' (looked for: loops, veiled, ifaces, maps, wideKeys, modest, calm, conditions, laid).
  DERIVED. THE GIVEN ROWS OF THIS SEAT. 8 by the template 'for every input the law returns true; each argument reads behind the call as it read before'; 0 by the template 'total and deterministic' (their statements: YtgaodkfneooonaaGreatTotals.lean).
  GIVEN WITH THE SEED: the statements are not yours to turn. If you find one false, say at which input.
  Laid BY PROGRAM, IN A SANDBOX (cutbox-rows.mjs): the forced cells as the released guide's own fill.sh prints them over the translation a0318fa044c2c46e… (all of the seat's roots in one cut). By AI agents, Wed Nov 11 2026. No macro, syntax, notation, axiom, sorry.
-/
import Derived.Test.YtgaodkfneooonaaGreatChecked
import GoSem.Claim
import GoSem.ClaimJoined
import GoSem.ClaimMapViews
import Derived.JoinedTies
import Derived.KernelRfl
namespace Go.Proofs.YtgaodkfneooonaaGreat
/- THE CELL 'sum', in the pinned program and in every row, IS THE sha256 OF THE DUMP (.gsa) THAT YtgaodkfneooonaaGreatProg.lean LOADS. Nothing in Lean hashes anything: it is a label: what it is worth is what the hold of that sum in a sandbox is worth. -/
noncomputable def Tryz.pinned : Pinned := { name := "ytgaodkfneooonaagreat", sum := "a0318fa044c2c46e8c10e9dcce7bd27649dd3af0e3b955bc721853a173b39d55", checked := Tryz.checked }
namespace Rows
def none {H : Type} : Left H := { results := [], args := [] }

/-- 'vestibulelaw28.CodegenMeans': WHATEVER THE INPUT: true; the input reads as it did. -/
def codegenMeansSpec : ChangeSpec := { name := "codegenMeans", fn := fun _ => fun
  | [d1, d2, d3, d4, d5] => { results := [.lit (.bool true)], args := [d1, d2, d3, d4, d5] }
  | _ => none }
def codegenMeansRow : OpenClaim := { program := "ytgaodkfneooonaagreat", sum := "a0318fa044c2c46e8c10e9dcce7bd27649dd3af0e3b955bc721853a173b39d55", func := "vestibule/vestibulelaw28.CodegenMeans", spec := "codegenMeans", unfollowed := true, recurses := true, apart := false }
def CodegenMeansSaid : Prop := codegenMeansRow.holds Tryz.pinned (OpenSpec.ofChange codegenMeansSpec)

/-- ITS FALSE NEIGHBOUR: 'it returns false'. Refute it at one input. -/
def codegenMeansWrong : ChangeSpec := { name := "codegenMeans", fn := fun _ => fun
  | [d1, d2, d3, d4, d5] => { results := [.lit (.bool false)], args := [d1, d2, d3, d4, d5] }
  | _ => none }
def CodegenMeansWrongFalsely : Prop := codegenMeansRow.holds Tryz.pinned (OpenSpec.ofChange codegenMeansWrong)

/-- 'vestibulelaw28.CodegenCalls': WHATEVER THE INPUT: true; the input reads as it did. -/
def codegenCallsSpec : ChangeSpec := { name := "codegenCalls", fn := fun _ => fun
  | [d1, d2, d3] => { results := [.lit (.bool true)], args := [d1, d2, d3] }
  | _ => none }
def codegenCallsRow : OpenClaim := { program := "ytgaodkfneooonaagreat", sum := "a0318fa044c2c46e8c10e9dcce7bd27649dd3af0e3b955bc721853a173b39d55", func := "vestibule/vestibulelaw28.CodegenCalls", spec := "codegenCalls", unfollowed := true, recurses := true, apart := false }
def CodegenCallsSaid : Prop := codegenCallsRow.holds Tryz.pinned (OpenSpec.ofChange codegenCallsSpec)

/-- ITS FALSE NEIGHBOUR: 'it returns false'. Refute it at one input. -/
def codegenCallsWrong : ChangeSpec := { name := "codegenCalls", fn := fun _ => fun
  | [d1, d2, d3] => { results := [.lit (.bool false)], args := [d1, d2, d3] }
  | _ => none }
def CodegenCallsWrongFalsely : Prop := codegenCallsRow.holds Tryz.pinned (OpenSpec.ofChange codegenCallsWrong)

/-- 'vestibulelaw28.CodegenSame': WHATEVER THE INPUT: true; the input reads as it did. -/
def codegenSameSpec : ChangeSpec := { name := "codegenSame", fn := fun _ => fun
  | [d1, d2, d3, d4] => { results := [.lit (.bool true)], args := [d1, d2, d3, d4] }
  | _ => none }
def codegenSameRow : OpenClaim := { program := "ytgaodkfneooonaagreat", sum := "a0318fa044c2c46e8c10e9dcce7bd27649dd3af0e3b955bc721853a173b39d55", func := "vestibule/vestibulelaw28.CodegenSame", spec := "codegenSame", unfollowed := true, recurses := true, apart := false }
def CodegenSameSaid : Prop := codegenSameRow.holds Tryz.pinned (OpenSpec.ofChange codegenSameSpec)

/-- ITS FALSE NEIGHBOUR: 'it returns false'. Refute it at one input. -/
def codegenSameWrong : ChangeSpec := { name := "codegenSame", fn := fun _ => fun
  | [d1, d2, d3, d4] => { results := [.lit (.bool false)], args := [d1, d2, d3, d4] }
  | _ => none }
def CodegenSameWrongFalsely : Prop := codegenSameRow.holds Tryz.pinned (OpenSpec.ofChange codegenSameWrong)

/-- 'vestibulelaw28.CodegenBounds': WHATEVER THE INPUT: true; the input reads as it did. -/
def codegenBoundsSpec : ChangeSpec := { name := "codegenBounds", fn := fun _ => fun
  | [d1, d2, d3, d4, d5, d6, d7] => { results := [.lit (.bool true)], args := [d1, d2, d3, d4, d5, d6, d7] }
  | _ => none }
def codegenBoundsRow : OpenClaim := { program := "ytgaodkfneooonaagreat", sum := "a0318fa044c2c46e8c10e9dcce7bd27649dd3af0e3b955bc721853a173b39d55", func := "vestibule/vestibulelaw28.CodegenBounds", spec := "codegenBounds", unfollowed := true, recurses := true, apart := false }
def CodegenBoundsSaid : Prop := codegenBoundsRow.holds Tryz.pinned (OpenSpec.ofChange codegenBoundsSpec)

/-- ITS FALSE NEIGHBOUR: 'it returns false'. Refute it at one input. -/
def codegenBoundsWrong : ChangeSpec := { name := "codegenBounds", fn := fun _ => fun
  | [d1, d2, d3, d4, d5, d6, d7] => { results := [.lit (.bool false)], args := [d1, d2, d3, d4, d5, d6, d7] }
  | _ => none }
def CodegenBoundsWrongFalsely : Prop := codegenBoundsRow.holds Tryz.pinned (OpenSpec.ofChange codegenBoundsWrong)

/-- 'vestibulelaw29.StackMeans': WHATEVER THE INPUT: true; the input reads as it did. -/
def stackMeansSpec : ChangeSpec := { name := "stackMeans", fn := fun _ => fun
  | [d1, d2, d3] => { results := [.lit (.bool true)], args := [d1, d2, d3] }
  | _ => none }
def stackMeansRow : OpenClaim := { program := "ytgaodkfneooonaagreat", sum := "a0318fa044c2c46e8c10e9dcce7bd27649dd3af0e3b955bc721853a173b39d55", func := "vestibule/vestibulelaw29.StackMeans", spec := "stackMeans", unfollowed := true, recurses := true, apart := false }
def StackMeansSaid : Prop := stackMeansRow.holds Tryz.pinned (OpenSpec.ofChange stackMeansSpec)

/-- ITS FALSE NEIGHBOUR: 'it returns false'. Refute it at one input. -/
def stackMeansWrong : ChangeSpec := { name := "stackMeans", fn := fun _ => fun
  | [d1, d2, d3] => { results := [.lit (.bool false)], args := [d1, d2, d3] }
  | _ => none }
def StackMeansWrongFalsely : Prop := stackMeansRow.holds Tryz.pinned (OpenSpec.ofChange stackMeansWrong)

/-- 'vestibulelaw29.StackSame': WHATEVER THE INPUT: true; the input reads as it did. -/
def stackSameSpec : ChangeSpec := { name := "stackSame", fn := fun _ => fun
  | [d1, d2] => { results := [.lit (.bool true)], args := [d1, d2] }
  | _ => none }
def stackSameRow : OpenClaim := { program := "ytgaodkfneooonaagreat", sum := "a0318fa044c2c46e8c10e9dcce7bd27649dd3af0e3b955bc721853a173b39d55", func := "vestibule/vestibulelaw29.StackSame", spec := "stackSame", unfollowed := true, recurses := true, apart := false }
def StackSameSaid : Prop := stackSameRow.holds Tryz.pinned (OpenSpec.ofChange stackSameSpec)

/-- ITS FALSE NEIGHBOUR: 'it returns false'. Refute it at one input. -/
def stackSameWrong : ChangeSpec := { name := "stackSame", fn := fun _ => fun
  | [d1, d2] => { results := [.lit (.bool false)], args := [d1, d2] }
  | _ => none }
def StackSameWrongFalsely : Prop := stackSameRow.holds Tryz.pinned (OpenSpec.ofChange stackSameWrong)

/-- 'vestibulelaw29.StackAlone': WHATEVER THE INPUT: true; the input reads as it did. -/
def stackAloneSpec : ChangeSpec := { name := "stackAlone", fn := fun _ => fun
  | [d1, d2, d3] => { results := [.lit (.bool true)], args := [d1, d2, d3] }
  | _ => none }
def stackAloneRow : OpenClaim := { program := "ytgaodkfneooonaagreat", sum := "a0318fa044c2c46e8c10e9dcce7bd27649dd3af0e3b955bc721853a173b39d55", func := "vestibule/vestibulelaw29.StackAlone", spec := "stackAlone", unfollowed := true, recurses := true, apart := false }
def StackAloneSaid : Prop := stackAloneRow.holds Tryz.pinned (OpenSpec.ofChange stackAloneSpec)

/-- ITS FALSE NEIGHBOUR: 'it returns false'. Refute it at one input. -/
def stackAloneWrong : ChangeSpec := { name := "stackAlone", fn := fun _ => fun
  | [d1, d2, d3] => { results := [.lit (.bool false)], args := [d1, d2, d3] }
  | _ => none }
def StackAloneWrongFalsely : Prop := stackAloneRow.holds Tryz.pinned (OpenSpec.ofChange stackAloneWrong)

/-- 'vestibulelaw29.StackChecked': WHATEVER THE INPUT: true; the input reads as it did. -/
def stackCheckedSpec : ChangeSpec := { name := "stackChecked", fn := fun _ => fun
  | [d1, d2] => { results := [.lit (.bool true)], args := [d1, d2] }
  | _ => none }
def stackCheckedRow : OpenClaim := { program := "ytgaodkfneooonaagreat", sum := "a0318fa044c2c46e8c10e9dcce7bd27649dd3af0e3b955bc721853a173b39d55", func := "vestibule/vestibulelaw29.StackChecked", spec := "stackChecked", unfollowed := true, recurses := true, apart := false }
def StackCheckedSaid : Prop := stackCheckedRow.holds Tryz.pinned (OpenSpec.ofChange stackCheckedSpec)

/-- ITS FALSE NEIGHBOUR: 'it returns false'. Refute it at one input. -/
def stackCheckedWrong : ChangeSpec := { name := "stackChecked", fn := fun _ => fun
  | [d1, d2] => { results := [.lit (.bool false)], args := [d1, d2] }
  | _ => none }
def StackCheckedWrongFalsely : Prop := stackCheckedRow.holds Tryz.pinned (OpenSpec.ofChange stackCheckedWrong)

/- THE SECOND FORM. 'bulk': how many values and letters a reading holds, each counted each time it is reached (what is shared counts as often as it is met; a slice's spare places count too). A statement '..UptoSaid' is the law's where the arguments, and the package variables that the reading takes, are together of bulk at most 1048576: NARROWER than '..Said'. Prove '..Said' where nothing that the law and all that it calls make is longer than what came in: it says more and counts as full. Else prove '..UptoSaid'. A law counts once. -/
mutual
def uptoBulk {H : Type} : DataW H → Nat
  | .lit (.string bytes) => bytes.length + 1
  | .lit _ => 1
  | .nil => 1
  | .ptr d => uptoBulk d + 1
  | .slice elems spare => uptoBulkAll elems + uptoBulkAll spare + 1
  | .agg parts => uptoBulkAll parts + 1
  | .iface _ d => uptoBulk d + 1
  | .map entries => uptoBulkEntries entries + 1
  | .held _ => 1
def uptoBulkAll {H : Type} : List (DataW H) → Nat
  | [] => 0
  | d :: r => uptoBulk d + uptoBulkAll r
def uptoBulkEntries {H : Type} : List (Lit × DataW H) → Nat
  | [] => 0
  | x :: r => uptoBulkEntry x + uptoBulkEntries r
def uptoBulkEntry {H : Type} : Lit × DataW H → Nat
  | (.string bytes, d) => bytes.length + uptoBulk d + 1
  | (_, d) => uptoBulk d + 1
 end
def uptoSmall : (H : Type) → List (DataW H) → Bool := fun _ ds => decide (uptoBulkAll ds ≤ 1048576)
def OpenSpec.upto (s : _root_.Go.ChangeSpec) : _root_.Go.OpenSpec := { _root_.Go.OpenSpec.ofChange s with cond := some uptoSmall }

/-- 'vestibulelaw28.CodegenMeans', WHERE WHAT IT READS IS OF BULK AT MOST 1048576: true; the input reads as it did. -/
def codegenMeansUptoRow : OpenClaim := { program := "ytgaodkfneooonaagreat", sum := "a0318fa044c2c46e8c10e9dcce7bd27649dd3af0e3b955bc721853a173b39d55", func := "vestibule/vestibulelaw28.CodegenMeans", spec := "codegenMeans", unfollowed := true, recurses := true, apart := false, narrowed := true }
def CodegenMeansUptoSaid : Prop := codegenMeansUptoRow.holds Tryz.pinned (OpenSpec.upto codegenMeansSpec)

/-- 'vestibulelaw28.CodegenCalls', WHERE WHAT IT READS IS OF BULK AT MOST 1048576: true; the input reads as it did. -/
def codegenCallsUptoRow : OpenClaim := { program := "ytgaodkfneooonaagreat", sum := "a0318fa044c2c46e8c10e9dcce7bd27649dd3af0e3b955bc721853a173b39d55", func := "vestibule/vestibulelaw28.CodegenCalls", spec := "codegenCalls", unfollowed := true, recurses := true, apart := false, narrowed := true }
def CodegenCallsUptoSaid : Prop := codegenCallsUptoRow.holds Tryz.pinned (OpenSpec.upto codegenCallsSpec)

/-- 'vestibulelaw28.CodegenSame', WHERE WHAT IT READS IS OF BULK AT MOST 1048576: true; the input reads as it did. -/
def codegenSameUptoRow : OpenClaim := { program := "ytgaodkfneooonaagreat", sum := "a0318fa044c2c46e8c10e9dcce7bd27649dd3af0e3b955bc721853a173b39d55", func := "vestibule/vestibulelaw28.CodegenSame", spec := "codegenSame", unfollowed := true, recurses := true, apart := false, narrowed := true }
def CodegenSameUptoSaid : Prop := codegenSameUptoRow.holds Tryz.pinned (OpenSpec.upto codegenSameSpec)

/-- 'vestibulelaw28.CodegenBounds', WHERE WHAT IT READS IS OF BULK AT MOST 1048576: true; the input reads as it did. -/
def codegenBoundsUptoRow : OpenClaim := { program := "ytgaodkfneooonaagreat", sum := "a0318fa044c2c46e8c10e9dcce7bd27649dd3af0e3b955bc721853a173b39d55", func := "vestibule/vestibulelaw28.CodegenBounds", spec := "codegenBounds", unfollowed := true, recurses := true, apart := false, narrowed := true }
def CodegenBoundsUptoSaid : Prop := codegenBoundsUptoRow.holds Tryz.pinned (OpenSpec.upto codegenBoundsSpec)

/-- 'vestibulelaw29.StackMeans', WHERE WHAT IT READS IS OF BULK AT MOST 1048576: true; the input reads as it did. -/
def stackMeansUptoRow : OpenClaim := { program := "ytgaodkfneooonaagreat", sum := "a0318fa044c2c46e8c10e9dcce7bd27649dd3af0e3b955bc721853a173b39d55", func := "vestibule/vestibulelaw29.StackMeans", spec := "stackMeans", unfollowed := true, recurses := true, apart := false, narrowed := true }
def StackMeansUptoSaid : Prop := stackMeansUptoRow.holds Tryz.pinned (OpenSpec.upto stackMeansSpec)

/-- 'vestibulelaw29.StackSame', WHERE WHAT IT READS IS OF BULK AT MOST 1048576: true; the input reads as it did. -/
def stackSameUptoRow : OpenClaim := { program := "ytgaodkfneooonaagreat", sum := "a0318fa044c2c46e8c10e9dcce7bd27649dd3af0e3b955bc721853a173b39d55", func := "vestibule/vestibulelaw29.StackSame", spec := "stackSame", unfollowed := true, recurses := true, apart := false, narrowed := true }
def StackSameUptoSaid : Prop := stackSameUptoRow.holds Tryz.pinned (OpenSpec.upto stackSameSpec)

/-- 'vestibulelaw29.StackAlone', WHERE WHAT IT READS IS OF BULK AT MOST 1048576: true; the input reads as it did. -/
def stackAloneUptoRow : OpenClaim := { program := "ytgaodkfneooonaagreat", sum := "a0318fa044c2c46e8c10e9dcce7bd27649dd3af0e3b955bc721853a173b39d55", func := "vestibule/vestibulelaw29.StackAlone", spec := "stackAlone", unfollowed := true, recurses := true, apart := false, narrowed := true }
def StackAloneUptoSaid : Prop := stackAloneUptoRow.holds Tryz.pinned (OpenSpec.upto stackAloneSpec)

/-- 'vestibulelaw29.StackChecked', WHERE WHAT IT READS IS OF BULK AT MOST 1048576: true; the input reads as it did. -/
def stackCheckedUptoRow : OpenClaim := { program := "ytgaodkfneooonaagreat", sum := "a0318fa044c2c46e8c10e9dcce7bd27649dd3af0e3b955bc721853a173b39d55", func := "vestibule/vestibulelaw29.StackChecked", spec := "stackChecked", unfollowed := true, recurses := true, apart := false, narrowed := true }
def StackCheckedUptoSaid : Prop := stackCheckedUptoRow.holds Tryz.pinned (OpenSpec.upto stackCheckedSpec)

end Rows
end Go.Proofs.YtgaodkfneooonaaGreat
