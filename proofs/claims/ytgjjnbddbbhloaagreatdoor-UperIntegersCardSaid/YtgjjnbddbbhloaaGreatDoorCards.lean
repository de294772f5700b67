/-
  DERIVED. GIVEN WITH THE SEED: THE CARDS: each row of YtgjjnbddbbhloaaGreatDoorRows.lean that lists a variable, with what it lists TIED to the program's text (the seventh form; the later family's looks); each row that meets fmt, with fmt's text TOLD by the authors' own Lean function (tested against real Go, not proved from fmt's source: count such statements apart). THE CARD IS WHAT COUNTS. Prove the row's statement (the work); the ties are given (YtgjjnbddbbhloaaGreatDoorTie.lean); close each card by the builder's one call (the guide's Derived/Test/ToyasCard.lean, 'card_holds'). Laid BY PROGRAM, IN A SANDBOX (cutbox-door.mjs). By AI agents, Wed Nov 11 2026. No macro, syntax, notation, axiom, sorry.
-/
import Derived.Test.YtgjjnbddbbhloaaGreatDoorRows
import GoSem.ClaimSeven
namespace Go.Proofs.YtgjjnbddbbhloaaGreatDoor
namespace Rows

/-- THE TIED CARD OF 'oghamlaw19.UperWidths'. -/
def uperWidthsCard : Claim7 := { stood := { row := uperWidthsRow, standIns := [], harness := (true, "70d0bcb2151e622bdf1bc6421af17e6f8e9d25dadfe1d0c87c05435e5ce60c62"), looks := false }, kinds := [], alts := [], laidByText := true, laidKinds := [.data, .pinned], laidTests := true, laidLooks := .later }
def UperWidthsCardSaid : Prop := Claim7.holds Tryz.pinned (.plain (OpenSpec.ofChange uperWidthsSpec)) uperWidthsCard

/-- THE TIED CARD OF 'oghamlaw19.UperPreamble'. -/
def uperPreambleCard : Claim7 := { stood := { row := uperPreambleRow, standIns := [], harness := (true, "70d0bcb2151e622bdf1bc6421af17e6f8e9d25dadfe1d0c87c05435e5ce60c62"), looks := false }, kinds := [], alts := [], laidByText := true, laidKinds := [.data, .pinned], laidTests := true, laidLooks := .later }
def UperPreambleCardSaid : Prop := Claim7.holds Tryz.pinned (.plain (OpenSpec.ofChange uperPreambleSpec)) uperPreambleCard

/-- THE TIED CARD OF 'oghamlaw19.UperIntegers'. -/
def uperIntegersCard : Claim7 := { stood := { row := uperIntegersRow, standIns := [], harness := (true, "70d0bcb2151e622bdf1bc6421af17e6f8e9d25dadfe1d0c87c05435e5ce60c62"), looks := false }, kinds := [], alts := [], laidByText := true, laidKinds := [.data, .pinned], laidTests := true, laidLooks := .later }
def UperIntegersCardSaid : Prop := Claim7.holds Tryz.pinned (.plain (OpenSpec.ofChange uperIntegersSpec)) uperIntegersCard

/-- THE TIED CARD OF 'oghamlaw19.UperChoices'. -/
def uperChoicesCard : Claim7 := { stood := { row := uperChoicesRow, standIns := [], harness := (true, "70d0bcb2151e622bdf1bc6421af17e6f8e9d25dadfe1d0c87c05435e5ce60c62"), looks := false }, kinds := [], alts := [], laidByText := true, laidKinds := [.data, .pinned], laidTests := true, laidLooks := .later }
def UperChoicesCardSaid : Prop := Claim7.holds Tryz.pinned (.plain (OpenSpec.ofChange uperChoicesSpec)) uperChoicesCard

/-- THE TIED CARD OF 'oghamlaw20.UperinBits'. -/
def uperinBitsCard : Claim7 := { stood := { row := uperinBitsRow, standIns := [], harness := (true, "70d0bcb2151e622bdf1bc6421af17e6f8e9d25dadfe1d0c87c05435e5ce60c62"), looks := false }, kinds := [], alts := [], laidByText := true, laidKinds := [.data, .pinned], laidTests := true, laidLooks := .later }
def UperinBitsCardSaid : Prop := Claim7.holds Tryz.pinned (.plain (OpenSpec.ofChange uperinBitsSpec)) uperinBitsCard

/-- THE TIED CARD OF 'oghamlaw20.UperinSlots'. -/
def uperinSlotsCard : Claim7 := { stood := { row := uperinSlotsRow, standIns := [], harness := (true, "70d0bcb2151e622bdf1bc6421af17e6f8e9d25dadfe1d0c87c05435e5ce60c62"), looks := false }, kinds := [], alts := [], laidByText := true, laidKinds := [.data, .pinned], laidTests := true, laidLooks := .later }
def UperinSlotsCardSaid : Prop := Claim7.holds Tryz.pinned (.plain (OpenSpec.ofChange uperinSlotsSpec)) uperinSlotsCard

/-- THE TIED CARD OF 'oghamlaw20.UperinOpen'. -/
def uperinOpenCard : Claim7 := { stood := { row := uperinOpenRow, standIns := [], harness := (true, "70d0bcb2151e622bdf1bc6421af17e6f8e9d25dadfe1d0c87c05435e5ce60c62"), looks := false }, kinds := [], alts := [], laidByText := true, laidKinds := [.data, .pinned], laidTests := true, laidLooks := .later }
def UperinOpenCardSaid : Prop := Claim7.holds Tryz.pinned (.plain (OpenSpec.ofChange uperinOpenSpec)) uperinOpenCard

/-- THE TIED CARD OF 'oghamlaw20.UperinLong'. -/
def uperinLongCard : Claim7 := { stood := { row := uperinLongRow, standIns := [], harness := (true, "70d0bcb2151e622bdf1bc6421af17e6f8e9d25dadfe1d0c87c05435e5ce60c62"), looks := false }, kinds := [], alts := [], laidByText := true, laidKinds := [.data, .pinned], laidTests := true, laidLooks := .later }
def UperinLongCardSaid : Prop := Claim7.holds Tryz.pinned (.plain (OpenSpec.ofChange uperinLongSpec)) uperinLongCard

/-- THE SECOND FORM's CARD OF 'oghamlaw19.UperWidths'. -/
def uperWidthsUptoCard : Claim7 := { stood := { row := uperWidthsUptoRow, standIns := [], harness := (true, "70d0bcb2151e622bdf1bc6421af17e6f8e9d25dadfe1d0c87c05435e5ce60c62"), looks := false }, kinds := [], alts := [], laidByText := true, laidKinds := [.data, .pinned], laidTests := true, laidLooks := .later }
def UperWidthsUptoCardSaid : Prop := Claim7.holds Tryz.pinned (.plain (OpenSpec.upto uperWidthsSpec)) uperWidthsUptoCard

/-- THE SECOND FORM's CARD OF 'oghamlaw19.UperPreamble'. -/
def uperPreambleUptoCard : Claim7 := { stood := { row := uperPreambleUptoRow, standIns := [], harness := (true, "70d0bcb2151e622bdf1bc6421af17e6f8e9d25dadfe1d0c87c05435e5ce60c62"), looks := false }, kinds := [], alts := [], laidByText := true, laidKinds := [.data, .pinned], laidTests := true, laidLooks := .later }
def UperPreambleUptoCardSaid : Prop := Claim7.holds Tryz.pinned (.plain (OpenSpec.upto uperPreambleSpec)) uperPreambleUptoCard

/-- THE SECOND FORM's CARD OF 'oghamlaw19.UperIntegers'. -/
def uperIntegersUptoCard : Claim7 := { stood := { row := uperIntegersUptoRow, standIns := [], harness := (true, "70d0bcb2151e622bdf1bc6421af17e6f8e9d25dadfe1d0c87c05435e5ce60c62"), looks := false }, kinds := [], alts := [], laidByText := true, laidKinds := [.data, .pinned], laidTests := true, laidLooks := .later }
def UperIntegersUptoCardSaid : Prop := Claim7.holds Tryz.pinned (.plain (OpenSpec.upto uperIntegersSpec)) uperIntegersUptoCard

/-- THE SECOND FORM's CARD OF 'oghamlaw19.UperChoices'. -/
def uperChoicesUptoCard : Claim7 := { stood := { row := uperChoicesUptoRow, standIns := [], harness := (true, "70d0bcb2151e622bdf1bc6421af17e6f8e9d25dadfe1d0c87c05435e5ce60c62"), looks := false }, kinds := [], alts := [], laidByText := true, laidKinds := [.data, .pinned], laidTests := true, laidLooks := .later }
def UperChoicesUptoCardSaid : Prop := Claim7.holds Tryz.pinned (.plain (OpenSpec.upto uperChoicesSpec)) uperChoicesUptoCard

/-- THE SECOND FORM's CARD OF 'oghamlaw20.UperinBits'. -/
def uperinBitsUptoCard : Claim7 := { stood := { row := uperinBitsUptoRow, standIns := [], harness := (true, "70d0bcb2151e622bdf1bc6421af17e6f8e9d25dadfe1d0c87c05435e5ce60c62"), looks := false }, kinds := [], alts := [], laidByText := true, laidKinds := [.data, .pinned], laidTests := true, laidLooks := .later }
def UperinBitsUptoCardSaid : Prop := Claim7.holds Tryz.pinned (.plain (OpenSpec.upto uperinBitsSpec)) uperinBitsUptoCard

/-- THE SECOND FORM's CARD OF 'oghamlaw20.UperinSlots'. -/
def uperinSlotsUptoCard : Claim7 := { stood := { row := uperinSlotsUptoRow, standIns := [], harness := (true, "70d0bcb2151e622bdf1bc6421af17e6f8e9d25dadfe1d0c87c05435e5ce60c62"), looks := false }, kinds := [], alts := [], laidByText := true, laidKinds := [.data, .pinned], laidTests := true, laidLooks := .later }
def UperinSlotsUptoCardSaid : Prop := Claim7.holds Tryz.pinned (.plain (OpenSpec.upto uperinSlotsSpec)) uperinSlotsUptoCard

/-- THE SECOND FORM's CARD OF 'oghamlaw20.UperinOpen'. -/
def uperinOpenUptoCard : Claim7 := { stood := { row := uperinOpenUptoRow, standIns := [], harness := (true, "70d0bcb2151e622bdf1bc6421af17e6f8e9d25dadfe1d0c87c05435e5ce60c62"), looks := false }, kinds := [], alts := [], laidByText := true, laidKinds := [.data, .pinned], laidTests := true, laidLooks := .later }
def UperinOpenUptoCardSaid : Prop := Claim7.holds Tryz.pinned (.plain (OpenSpec.upto uperinOpenSpec)) uperinOpenUptoCard

/-- THE SECOND FORM's CARD OF 'oghamlaw20.UperinLong'. -/
def uperinLongUptoCard : Claim7 := { stood := { row := uperinLongUptoRow, standIns := [], harness := (true, "70d0bcb2151e622bdf1bc6421af17e6f8e9d25dadfe1d0c87c05435e5ce60c62"), looks := false }, kinds := [], alts := [], laidByText := true, laidKinds := [.data, .pinned], laidTests := true, laidLooks := .later }
def UperinLongUptoCardSaid : Prop := Claim7.holds Tryz.pinned (.plain (OpenSpec.upto uperinLongSpec)) uperinLongUptoCard
end Rows
end Go.Proofs.YtgjjnbddbbhloaaGreatDoor
