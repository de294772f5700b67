/-
  DERIVED. GIVEN WITH THE SEED: THE CARDS: each row of YtcpdffccolffaaaGreatDoorRows.lean that lists a variable, with what it lists TIED to the program's text (the seventh form; the later family's looks); each row that meets fmt, with fmt's text TOLD by the authors' own Lean function (tested against real Go, not proved from fmt's source: count such statements apart). THE CARD IS WHAT COUNTS. Prove the row's statement (the work); the ties are given (YtcpdffccolffaaaGreatDoorTie.lean); close each card by the builder's one call (the guide's Derived/Test/ToyasCard.lean, 'card_holds'). Laid BY PROGRAM, IN A SANDBOX (cutbox-door.mjs). By AI agents, Wed Nov 11 2026. No macro, syntax, notation, axiom, sorry.
-/
import Derived.Test.YtcpdffccolffaaaGreatDoorRows
import GoSem.ClaimSeven
namespace Go.Proofs.YtcpdffccolffaaaGreatDoor
namespace Rows

/-- THE TIED CARD OF 'oghamlaw20.UperinSlots'. -/
def uperinSlotsCard : Claim7 := { stood := { row := uperinSlotsRow, standIns := [], harness := (true, "c6b295e666c203b532bc9b7a55b12996f5d7d520a82037e9804f2ea248423413"), looks := false }, kinds := [], alts := [], laidByText := true, laidKinds := [.data, .pinned], laidTests := true, laidLooks := .later }
def UperinSlotsCardSaid : Prop := Claim7.holds Tryz.pinned (.plain (OpenSpec.ofChange uperinSlotsSpec)) uperinSlotsCard

/-- THE SECOND FORM's CARD OF 'oghamlaw20.UperinSlots'. -/
def uperinSlotsUptoCard : Claim7 := { stood := { row := uperinSlotsUptoRow, standIns := [], harness := (true, "c6b295e666c203b532bc9b7a55b12996f5d7d520a82037e9804f2ea248423413"), looks := false }, kinds := [], alts := [], laidByText := true, laidKinds := [.data, .pinned], laidTests := true, laidLooks := .later }
def UperinSlotsUptoCardSaid : Prop := Claim7.holds Tryz.pinned (.plain (OpenSpec.upto uperinSlotsSpec)) uperinSlotsUptoCard
end Rows
end Go.Proofs.YtcpdffccolffaaaGreatDoor
