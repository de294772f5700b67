/-
  DERIVED. GIVEN WITH THE SEED: THE CARDS: each row of YtpafblhkafcfmaaGreatDoorRows.lean that lists a variable, with what it lists TIED to the program's text (the seventh form; the later family's looks); each row that meets fmt, with fmt's text TOLD by the authors' own Lean function (tested against real Go, not proved from fmt's source: count such statements apart). THE CARD IS WHAT COUNTS. Prove the row's statement (the work); the ties are given (YtpafblhkafcfmaaGreatDoorTie.lean); close each card by the builder's one call (the guide's Derived/Test/ToyasCard.lean, 'card_holds'). Laid BY PROGRAM, IN A SANDBOX (cutbox-door.mjs). By AI agents, Wed Nov 11 2026. No macro, syntax, notation, axiom, sorry.
-/
import Derived.Test.YtpafblhkafcfmaaGreatDoorRows
import GoSem.ClaimSeven
namespace Go.Proofs.YtpafblhkafcfmaaGreatDoor
namespace Rows

/-- THE TIED CARD OF 'oghamlaw20.UperinGroups'. -/
def uperinGroupsCard : Claim7 := { stood := { row := uperinGroupsRow, standIns := [], harness := (true, "61c74ffb5b6a935f417d4a2541b317cd2ac39de3c889ec1d9dc6b60459667dcb"), looks := false }, kinds := [], alts := [], laidByText := true, laidKinds := [.data, .pinned], laidTests := true, laidLooks := .later }
def UperinGroupsCardSaid : Prop := Claim7.holds Tryz.pinned (.plain (OpenSpec.ofChange uperinGroupsSpec)) uperinGroupsCard

/-- THE SECOND FORM's CARD OF 'oghamlaw20.UperinGroups'. -/
def uperinGroupsUptoCard : Claim7 := { stood := { row := uperinGroupsUptoRow, standIns := [], harness := (true, "61c74ffb5b6a935f417d4a2541b317cd2ac39de3c889ec1d9dc6b60459667dcb"), looks := false }, kinds := [], alts := [], laidByText := true, laidKinds := [.data, .pinned], laidTests := true, laidLooks := .later }
def UperinGroupsUptoCardSaid : Prop := Claim7.holds Tryz.pinned (.plain (OpenSpec.upto uperinGroupsSpec)) uperinGroupsUptoCard
end Rows
end Go.Proofs.YtpafblhkafcfmaaGreatDoor
