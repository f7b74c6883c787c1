/-
  DERIVED. GIVEN WITH THE SEED: THE CARDS: each row of YtpopmjgimhmciaaGreatDoorRows.lean that lists a variable, with what it lists TIED to the program's text (the seventh form; the later family's looks); each row that meets fmt, with fmt's text TOLD by the authors' own Lean function (tested against real Go, not proved from fmt's source: count such statements apart). THE CARD IS WHAT COUNTS. Prove the row's statement (the work); the ties are given (YtpopmjgimhmciaaGreatDoorTie.lean); close each card by the builder's one call (the guide's Derived/Test/ToyasCard.lean, 'card_holds'). Laid BY PROGRAM, IN A SANDBOX (cutbox-door.mjs). By AI agents, Wed Nov 11 2026. No macro, syntax, notation, axiom, sorry.
-/
import Derived.Test.YtpopmjgimhmciaaGreatDoorRows
import GoSem.ClaimSeven
namespace Go.Proofs.YtpopmjgimhmciaaGreatDoor
namespace Rows

/-- THE TIED CARD OF 'vestibulelaw19.PolicyResolves'. -/
def policyResolvesCard : Claim7 := { stood := { row := policyResolvesRow, standIns := [], harness := (true, "75a8ccb431f7310db95ba1c5f63b5929ac010581ddf5d5e3de381f8803fb1470"), looks := false }, kinds := [], alts := [], laidByText := true, laidKinds := [.data, .data, .data], laidTests := true, laidLooks := .later }
def PolicyResolvesCardSaid : Prop := Claim7.holds Tryz.pinned (.plain (OpenSpec.ofChange policyResolvesSpec)) policyResolvesCard

/-- THE TIED CARD OF 'vestibulelaw19.PolicyTells'. -/
def policyTellsCard : Claim7 := { stood := { row := policyTellsRow, standIns := [], harness := (true, "75a8ccb431f7310db95ba1c5f63b5929ac010581ddf5d5e3de381f8803fb1470"), looks := false }, kinds := [], alts := [], laidByText := true, laidKinds := [.data, .data, .data], laidTests := true, laidLooks := .later }
def PolicyTellsCardSaid : Prop := Claim7.holds Tryz.pinned (.plain (OpenSpec.ofChange policyTellsSpec)) policyTellsCard

/-- THE TIED CARD OF 'vestibulelaw19.PolicyBack'. -/
def policyBackCard : Claim7 := { stood := { row := policyBackRow, standIns := [], harness := (true, "75a8ccb431f7310db95ba1c5f63b5929ac010581ddf5d5e3de381f8803fb1470"), looks := false }, kinds := [], alts := [], laidByText := true, laidKinds := [.data, .data, .data], laidTests := true, laidLooks := .later }
def PolicyBackCardSaid : Prop := Claim7.holds Tryz.pinned (.plain (OpenSpec.ofChange policyBackSpec)) policyBackCard

/-- THE TIED CARD OF 'vestibulelaw19.PolicyBehind'. -/
def policyBehindCard : Claim7 := { stood := { row := policyBehindRow, standIns := [], harness := (true, "75a8ccb431f7310db95ba1c5f63b5929ac010581ddf5d5e3de381f8803fb1470"), looks := false }, kinds := [], alts := [], laidByText := true, laidKinds := [.data, .data, .data], laidTests := true, laidLooks := .later }
def PolicyBehindCardSaid : Prop := Claim7.holds Tryz.pinned (.plain (OpenSpec.ofChange policyBehindSpec)) policyBehindCard

/-- THE TIED CARD OF 'vestibulelaw19.PolicyOther'. -/
def policyOtherCard : Claim7 := { stood := { row := policyOtherRow, standIns := [], harness := (true, "75a8ccb431f7310db95ba1c5f63b5929ac010581ddf5d5e3de381f8803fb1470"), looks := false }, kinds := [], alts := [], laidByText := true, laidKinds := [.data, .data, .data], laidTests := true, laidLooks := .later }
def PolicyOtherCardSaid : Prop := Claim7.holds Tryz.pinned (.plain (OpenSpec.ofChange policyOtherSpec)) policyOtherCard

/-- THE SECOND FORM's CARD OF 'vestibulelaw19.PolicyResolves'. -/
def policyResolvesUptoCard : Claim7 := { stood := { row := policyResolvesUptoRow, standIns := [], harness := (true, "75a8ccb431f7310db95ba1c5f63b5929ac010581ddf5d5e3de381f8803fb1470"), looks := false }, kinds := [], alts := [], laidByText := true, laidKinds := [.data, .data, .data], laidTests := true, laidLooks := .later }
def PolicyResolvesUptoCardSaid : Prop := Claim7.holds Tryz.pinned (.plain (OpenSpec.upto policyResolvesSpec)) policyResolvesUptoCard

/-- THE SECOND FORM's CARD OF 'vestibulelaw19.PolicyTells'. -/
def policyTellsUptoCard : Claim7 := { stood := { row := policyTellsUptoRow, standIns := [], harness := (true, "75a8ccb431f7310db95ba1c5f63b5929ac010581ddf5d5e3de381f8803fb1470"), looks := false }, kinds := [], alts := [], laidByText := true, laidKinds := [.data, .data, .data], laidTests := true, laidLooks := .later }
def PolicyTellsUptoCardSaid : Prop := Claim7.holds Tryz.pinned (.plain (OpenSpec.upto policyTellsSpec)) policyTellsUptoCard

/-- THE SECOND FORM's CARD OF 'vestibulelaw19.PolicyBack'. -/
def policyBackUptoCard : Claim7 := { stood := { row := policyBackUptoRow, standIns := [], harness := (true, "75a8ccb431f7310db95ba1c5f63b5929ac010581ddf5d5e3de381f8803fb1470"), looks := false }, kinds := [], alts := [], laidByText := true, laidKinds := [.data, .data, .data], laidTests := true, laidLooks := .later }
def PolicyBackUptoCardSaid : Prop := Claim7.holds Tryz.pinned (.plain (OpenSpec.upto policyBackSpec)) policyBackUptoCard

/-- THE SECOND FORM's CARD OF 'vestibulelaw19.PolicyBehind'. -/
def policyBehindUptoCard : Claim7 := { stood := { row := policyBehindUptoRow, standIns := [], harness := (true, "75a8ccb431f7310db95ba1c5f63b5929ac010581ddf5d5e3de381f8803fb1470"), looks := false }, kinds := [], alts := [], laidByText := true, laidKinds := [.data, .data, .data], laidTests := true, laidLooks := .later }
def PolicyBehindUptoCardSaid : Prop := Claim7.holds Tryz.pinned (.plain (OpenSpec.upto policyBehindSpec)) policyBehindUptoCard

/-- THE SECOND FORM's CARD OF 'vestibulelaw19.PolicyOther'. -/
def policyOtherUptoCard : Claim7 := { stood := { row := policyOtherUptoRow, standIns := [], harness := (true, "75a8ccb431f7310db95ba1c5f63b5929ac010581ddf5d5e3de381f8803fb1470"), looks := false }, kinds := [], alts := [], laidByText := true, laidKinds := [.data, .data, .data], laidTests := true, laidLooks := .later }
def PolicyOtherUptoCardSaid : Prop := Claim7.holds Tryz.pinned (.plain (OpenSpec.upto policyOtherSpec)) policyOtherUptoCard
end Rows
end Go.Proofs.YtpopmjgimhmciaaGreatDoor
