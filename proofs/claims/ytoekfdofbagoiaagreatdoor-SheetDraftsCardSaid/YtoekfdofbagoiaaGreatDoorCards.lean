/-
  DERIVED. GIVEN WITH THE SEED: THE CARDS: each row of YtoekfdofbagoiaaGreatDoorRows.lean that lists a variable, with what it lists TIED to the program's text (the seventh form; the later family's looks); each row that meets fmt, with fmt's text TOLD by the authors' own Lean function (tested against real Go, not proved from fmt's source: count such statements apart). THE CARD IS WHAT COUNTS. Prove the row's statement (the work); the ties are given (YtoekfdofbagoiaaGreatDoorTie.lean); close each card by the builder's one call (the guide's Derived/Test/ToyasCard.lean, 'card_holds'). Laid BY PROGRAM, IN A SANDBOX (cutbox-door.mjs). By AI agents, Wed Nov 11 2026. No macro, syntax, notation, axiom, sorry.
-/
import Derived.Test.YtoekfdofbagoiaaGreatDoorRows
import GoSem.ClaimSeven
namespace Go.Proofs.YtoekfdofbagoiaaGreatDoor
namespace Rows

/-- THE TIED CARD OF 'vestibulelaw32.SheetDrafts'. -/
def sheetDraftsCard : Claim7 := { stood := { row := sheetDraftsRow, standIns := [], harness := (true, "d5b2109e9042745fb1c32c7784d864c83fd8d4c6834f0c0bfc867066e03ed5da"), looks := true }, kinds := [], alts := [], laidByText := true, laidKinds := [.data, .data, .data], laidTests := true, laidLooks := .later }
def SheetDraftsCardSaid : Prop := Claim7.holds Tryz.pinned (.plain (OpenSpec.ofChange sheetDraftsSpec)) sheetDraftsCard

/-- THE TIED CARD OF 'vestibulelaw32.SheetAgainst'. -/
def sheetAgainstCard : Claim7 := { stood := { row := sheetAgainstRow, standIns := [], harness := (true, "d5b2109e9042745fb1c32c7784d864c83fd8d4c6834f0c0bfc867066e03ed5da"), looks := true }, kinds := [], alts := [], laidByText := true, laidKinds := [.data, .data, .data], laidTests := true, laidLooks := .later }
def SheetAgainstCardSaid : Prop := Claim7.holds Tryz.pinned (.plain (OpenSpec.ofChange sheetAgainstSpec)) sheetAgainstCard

/-- THE SECOND FORM's CARD OF 'vestibulelaw32.SheetDrafts'. -/
def sheetDraftsUptoCard : Claim7 := { stood := { row := sheetDraftsUptoRow, standIns := [], harness := (true, "d5b2109e9042745fb1c32c7784d864c83fd8d4c6834f0c0bfc867066e03ed5da"), looks := true }, kinds := [], alts := [], laidByText := true, laidKinds := [.data, .data, .data], laidTests := true, laidLooks := .later }
def SheetDraftsUptoCardSaid : Prop := Claim7.holds Tryz.pinned (.plain (OpenSpec.upto sheetDraftsSpec)) sheetDraftsUptoCard

/-- THE SECOND FORM's CARD OF 'vestibulelaw32.SheetAgainst'. -/
def sheetAgainstUptoCard : Claim7 := { stood := { row := sheetAgainstUptoRow, standIns := [], harness := (true, "d5b2109e9042745fb1c32c7784d864c83fd8d4c6834f0c0bfc867066e03ed5da"), looks := true }, kinds := [], alts := [], laidByText := true, laidKinds := [.data, .data, .data], laidTests := true, laidLooks := .later }
def SheetAgainstUptoCardSaid : Prop := Claim7.holds Tryz.pinned (.plain (OpenSpec.upto sheetAgainstSpec)) sheetAgainstUptoCard
end Rows
end Go.Proofs.YtoekfdofbagoiaaGreatDoor
