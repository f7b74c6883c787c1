/-
  DERIVED. GIVEN WITH THE SEED: THE CARDS: each row of YtjllccjpflmjfaaGreatDoorRows.lean that lists a variable, with what it lists TIED to the program's text (the seventh form; the later family's looks); each row that meets fmt, with fmt's text TOLD by the authors' own Lean function (tested against real Go, not proved from fmt's source: count such statements apart). THE CARD IS WHAT COUNTS. Prove the row's statement (the work); the ties are given (YtjllccjpflmjfaaGreatDoorTie.lean); close each card by the builder's one call (the guide's Derived/Test/ToyasCard.lean, 'card_holds'). Laid BY PROGRAM, IN A SANDBOX (cutbox-door.mjs). By AI agents, Wed Nov 11 2026. No macro, syntax, notation, axiom, sorry.
-/
import Derived.Test.YtjllccjpflmjfaaGreatDoorRows
import GoSem.ClaimSeven
namespace Go.Proofs.YtjllccjpflmjfaaGreatDoor
namespace Rows

/-- THE TIED CARD OF 'vestibulelaw32.SheetCalls'. -/
def sheetCallsCard : Claim7 := { stood := { row := sheetCallsRow, standIns := [], harness := (true, "ba1ba39e13e09902587cbcb93bfcedd0b71fe2eab5b4cbef442bdc64ecd1c0d1"), looks := true }, kinds := [], alts := [], laidByText := true, laidKinds := [.data, .data, .data], laidTests := true, laidLooks := .later }
def SheetCallsCardSaid : Prop := Claim7.holds Tryz.pinned (.plain (OpenSpec.ofChange sheetCallsSpec)) sheetCallsCard

/-- THE TIED CARD OF 'vestibulelaw32.SheetEither'. -/
def sheetEitherCard : Claim7 := { stood := { row := sheetEitherRow, standIns := [], harness := (true, "ba1ba39e13e09902587cbcb93bfcedd0b71fe2eab5b4cbef442bdc64ecd1c0d1"), looks := true }, kinds := [], alts := [], laidByText := true, laidKinds := [.data, .data, .data], laidTests := true, laidLooks := .later }
def SheetEitherCardSaid : Prop := Claim7.holds Tryz.pinned (.plain (OpenSpec.ofChange sheetEitherSpec)) sheetEitherCard

/-- THE TIED CARD OF 'vestibulelaw32.SheetFirst'. -/
def sheetFirstCard : Claim7 := { stood := { row := sheetFirstRow, standIns := [], harness := (true, "ba1ba39e13e09902587cbcb93bfcedd0b71fe2eab5b4cbef442bdc64ecd1c0d1"), looks := true }, kinds := [], alts := [], laidByText := true, laidKinds := [.data, .data, .data], laidTests := true, laidLooks := .later }
def SheetFirstCardSaid : Prop := Claim7.holds Tryz.pinned (.plain (OpenSpec.ofChange sheetFirstSpec)) sheetFirstCard

/-- THE SECOND FORM's CARD OF 'vestibulelaw32.SheetCalls'. -/
def sheetCallsUptoCard : Claim7 := { stood := { row := sheetCallsUptoRow, standIns := [], harness := (true, "ba1ba39e13e09902587cbcb93bfcedd0b71fe2eab5b4cbef442bdc64ecd1c0d1"), looks := true }, kinds := [], alts := [], laidByText := true, laidKinds := [.data, .data, .data], laidTests := true, laidLooks := .later }
def SheetCallsUptoCardSaid : Prop := Claim7.holds Tryz.pinned (.plain (OpenSpec.upto sheetCallsSpec)) sheetCallsUptoCard

/-- THE SECOND FORM's CARD OF 'vestibulelaw32.SheetEither'. -/
def sheetEitherUptoCard : Claim7 := { stood := { row := sheetEitherUptoRow, standIns := [], harness := (true, "ba1ba39e13e09902587cbcb93bfcedd0b71fe2eab5b4cbef442bdc64ecd1c0d1"), looks := true }, kinds := [], alts := [], laidByText := true, laidKinds := [.data, .data, .data], laidTests := true, laidLooks := .later }
def SheetEitherUptoCardSaid : Prop := Claim7.holds Tryz.pinned (.plain (OpenSpec.upto sheetEitherSpec)) sheetEitherUptoCard

/-- THE SECOND FORM's CARD OF 'vestibulelaw32.SheetFirst'. -/
def sheetFirstUptoCard : Claim7 := { stood := { row := sheetFirstUptoRow, standIns := [], harness := (true, "ba1ba39e13e09902587cbcb93bfcedd0b71fe2eab5b4cbef442bdc64ecd1c0d1"), looks := true }, kinds := [], alts := [], laidByText := true, laidKinds := [.data, .data, .data], laidTests := true, laidLooks := .later }
def SheetFirstUptoCardSaid : Prop := Claim7.holds Tryz.pinned (.plain (OpenSpec.upto sheetFirstSpec)) sheetFirstUptoCard
end Rows
end Go.Proofs.YtjllccjpflmjfaaGreatDoor
