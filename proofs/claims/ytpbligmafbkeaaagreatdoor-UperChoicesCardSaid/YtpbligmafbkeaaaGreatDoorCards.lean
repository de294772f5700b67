/-
  DERIVED. GIVEN WITH THE SEED: THE CARDS: each row of YtpbligmafbkeaaaGreatDoorRows.lean that lists a variable, with what it lists TIED to the program's text (the seventh form; the later family's looks); each row that meets fmt, with fmt's text TOLD by the authors' own Lean function (tested against real Go, not proved from fmt's source: count such statements apart). THE CARD IS WHAT COUNTS. Prove the row's statement (the work); the ties are given (YtpbligmafbkeaaaGreatDoorTie.lean); close each card by the builder's one call (the guide's Derived/Test/ToyasCard.lean, 'card_holds'). Laid BY PROGRAM, IN A SANDBOX (cutbox-door.mjs). By AI agents, Wed Nov 11 2026. No macro, syntax, notation, axiom, sorry.
-/
import Derived.Test.YtpbligmafbkeaaaGreatDoorRows
import GoSem.ClaimSeven
namespace Go.Proofs.YtpbligmafbkeaaaGreatDoor
namespace Rows

/-- THE TIED CARD OF 'oghamlaw19.UperChoices'. -/
def uperChoicesCard : Claim7 := { stood := { row := uperChoicesRow, standIns := [], harness := (true, "5f567eaf1af9afe36c83fd61ba5a87be4f9945c20a904c0545662fb4d8e43f4d"), looks := false }, kinds := [], alts := [], laidByText := true, laidKinds := [.data, .pinned], laidTests := true, laidLooks := .later }
def UperChoicesCardSaid : Prop := Claim7.holds Tryz.pinned (.plain (OpenSpec.ofChange uperChoicesSpec)) uperChoicesCard

/-- THE SECOND FORM's CARD OF 'oghamlaw19.UperChoices'. -/
def uperChoicesUptoCard : Claim7 := { stood := { row := uperChoicesUptoRow, standIns := [], harness := (true, "5f567eaf1af9afe36c83fd61ba5a87be4f9945c20a904c0545662fb4d8e43f4d"), looks := false }, kinds := [], alts := [], laidByText := true, laidKinds := [.data, .pinned], laidTests := true, laidLooks := .later }
def UperChoicesUptoCardSaid : Prop := Claim7.holds Tryz.pinned (.plain (OpenSpec.upto uperChoicesSpec)) uperChoicesUptoCard
end Rows
end Go.Proofs.YtpbligmafbkeaaaGreatDoor
