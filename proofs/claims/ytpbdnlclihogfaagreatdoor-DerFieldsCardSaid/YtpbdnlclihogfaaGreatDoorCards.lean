/-
  DERIVED. GIVEN WITH THE SEED: THE CARDS: each row of YtpbdnlclihogfaaGreatDoorRows.lean that lists a variable, with what it lists TIED to the program's text (the seventh form; the later family's looks); each row that meets fmt, with fmt's text TOLD by the authors' own Lean function (tested against real Go, not proved from fmt's source: count such statements apart). THE CARD IS WHAT COUNTS. Prove the row's statement (the work); the ties are given (YtpbdnlclihogfaaGreatDoorTie.lean); close each card by the builder's one call (the guide's Derived/Test/ToyasCard.lean, 'card_holds'). Laid BY PROGRAM, IN A SANDBOX (cutbox-door.mjs). By AI agents, Wed Nov 11 2026. No macro, syntax, notation, axiom, sorry.
-/
import Derived.Test.YtpbdnlclihogfaaGreatDoorRows
import GoSem.ClaimSeven
namespace Go.Proofs.YtpbdnlclihogfaaGreatDoor
namespace Rows

/-- THE TIED CARD OF 'oghamlaw15.DerEncodes'. -/
def derEncodesCard : Claim7 := { stood := { row := derEncodesRow, standIns := [], harness := (true, "dacb910dbd7beb9f4c378a0972b8fad537398d253503b44122d91db8b271c18e"), looks := false }, kinds := [], alts := [], laidByText := true, laidKinds := [.data, .pinned], laidTests := true, laidLooks := .later }
def DerEncodesCardSaid : Prop := Claim7.holds Tryz.pinned (.plain (OpenSpec.ofChange derEncodesSpec)) derEncodesCard

/-- THE TIED CARD OF 'oghamlaw15.DerUnlike'. -/
def derUnlikeCard : Claim7 := { stood := { row := derUnlikeRow, standIns := [], harness := (true, "dacb910dbd7beb9f4c378a0972b8fad537398d253503b44122d91db8b271c18e"), looks := false }, kinds := [], alts := [], laidByText := true, laidKinds := [.data, .pinned], laidTests := true, laidLooks := .later }
def DerUnlikeCardSaid : Prop := Claim7.holds Tryz.pinned (.plain (OpenSpec.ofChange derUnlikeSpec)) derUnlikeCard

/-- THE TIED CARD OF 'oghamlaw15.DerSets'. -/
def derSetsCard : Claim7 := { stood := { row := derSetsRow, standIns := [], harness := (true, "dacb910dbd7beb9f4c378a0972b8fad537398d253503b44122d91db8b271c18e"), looks := false }, kinds := [], alts := [], laidByText := true, laidKinds := [.data, .pinned], laidTests := true, laidLooks := .later }
def DerSetsCardSaid : Prop := Claim7.holds Tryz.pinned (.plain (OpenSpec.ofChange derSetsSpec)) derSetsCard

/-- THE TIED CARD OF 'oghamlaw15.DerLeaves'. -/
def derLeavesCard : Claim7 := { stood := { row := derLeavesRow, standIns := [], harness := (true, "dacb910dbd7beb9f4c378a0972b8fad537398d253503b44122d91db8b271c18e"), looks := false }, kinds := [], alts := [], laidByText := true, laidKinds := [.data, .pinned], laidTests := true, laidLooks := .later }
def DerLeavesCardSaid : Prop := Claim7.holds Tryz.pinned (.plain (OpenSpec.ofChange derLeavesSpec)) derLeavesCard

/-- THE TIED CARD OF 'oghamlaw15.DerFields'. -/
def derFieldsCard : Claim7 := { stood := { row := derFieldsRow, standIns := [], harness := (true, "dacb910dbd7beb9f4c378a0972b8fad537398d253503b44122d91db8b271c18e"), looks := false }, kinds := [], alts := [], laidByText := true, laidKinds := [.data, .pinned], laidTests := true, laidLooks := .later }
def DerFieldsCardSaid : Prop := Claim7.holds Tryz.pinned (.plain (OpenSpec.ofChange derFieldsSpec)) derFieldsCard

/-- THE TIED CARD OF 'oghamlaw16.DerinDecodes'. -/
def derinDecodesCard : Claim7 := { stood := { row := derinDecodesRow, standIns := [], harness := (true, "dacb910dbd7beb9f4c378a0972b8fad537398d253503b44122d91db8b271c18e"), looks := false }, kinds := [], alts := [], laidByText := true, laidKinds := [.data, .pinned], laidTests := true, laidLooks := .later }
def DerinDecodesCardSaid : Prop := Claim7.holds Tryz.pinned (.plain (OpenSpec.ofChange derinDecodesSpec)) derinDecodesCard

/-- THE TIED CARD OF 'oghamlaw16.DerinBack'. -/
def derinBackCard : Claim7 := { stood := { row := derinBackRow, standIns := [], harness := (true, "dacb910dbd7beb9f4c378a0972b8fad537398d253503b44122d91db8b271c18e"), looks := false }, kinds := [], alts := [], laidByText := true, laidKinds := [.data, .pinned], laidTests := true, laidLooks := .later }
def DerinBackCardSaid : Prop := Claim7.holds Tryz.pinned (.plain (OpenSpec.ofChange derinBackSpec)) derinBackCard

/-- THE TIED CARD OF 'oghamlaw16.DerinLong'. -/
def derinLongCard : Claim7 := { stood := { row := derinLongRow, standIns := [], harness := (true, "dacb910dbd7beb9f4c378a0972b8fad537398d253503b44122d91db8b271c18e"), looks := false }, kinds := [], alts := [], laidByText := true, laidKinds := [.data, .pinned], laidTests := true, laidLooks := .later }
def DerinLongCardSaid : Prop := Claim7.holds Tryz.pinned (.plain (OpenSpec.ofChange derinLongSpec)) derinLongCard

/-- THE TIED CARD OF 'oghamlaw16.DerinStrict'. -/
def derinStrictCard : Claim7 := { stood := { row := derinStrictRow, standIns := [], harness := (true, "dacb910dbd7beb9f4c378a0972b8fad537398d253503b44122d91db8b271c18e"), looks := false }, kinds := [], alts := [], laidByText := true, laidKinds := [.data, .pinned], laidTests := true, laidLooks := .later }
def DerinStrictCardSaid : Prop := Claim7.holds Tryz.pinned (.plain (OpenSpec.ofChange derinStrictSpec)) derinStrictCard

/-- THE TIED CARD OF 'oghamlaw16.DerinOrder'. -/
def derinOrderCard : Claim7 := { stood := { row := derinOrderRow, standIns := [], harness := (true, "dacb910dbd7beb9f4c378a0972b8fad537398d253503b44122d91db8b271c18e"), looks := false }, kinds := [], alts := [], laidByText := true, laidKinds := [.data, .pinned], laidTests := true, laidLooks := .later }
def DerinOrderCardSaid : Prop := Claim7.holds Tryz.pinned (.plain (OpenSpec.ofChange derinOrderSpec)) derinOrderCard

/-- THE TIED CARD OF 'oghamlaw16.DerinKeeps'. -/
def derinKeepsCard : Claim7 := { stood := { row := derinKeepsRow, standIns := [], harness := (true, "dacb910dbd7beb9f4c378a0972b8fad537398d253503b44122d91db8b271c18e"), looks := false }, kinds := [], alts := [], laidByText := true, laidKinds := [.data, .pinned], laidTests := true, laidLooks := .later }
def DerinKeepsCardSaid : Prop := Claim7.holds Tryz.pinned (.plain (OpenSpec.ofChange derinKeepsSpec)) derinKeepsCard

/-- THE SECOND FORM's CARD OF 'oghamlaw15.DerEncodes'. -/
def derEncodesUptoCard : Claim7 := { stood := { row := derEncodesUptoRow, standIns := [], harness := (true, "dacb910dbd7beb9f4c378a0972b8fad537398d253503b44122d91db8b271c18e"), looks := false }, kinds := [], alts := [], laidByText := true, laidKinds := [.data, .pinned], laidTests := true, laidLooks := .later }
def DerEncodesUptoCardSaid : Prop := Claim7.holds Tryz.pinned (.plain (OpenSpec.upto derEncodesSpec)) derEncodesUptoCard

/-- THE SECOND FORM's CARD OF 'oghamlaw15.DerUnlike'. -/
def derUnlikeUptoCard : Claim7 := { stood := { row := derUnlikeUptoRow, standIns := [], harness := (true, "dacb910dbd7beb9f4c378a0972b8fad537398d253503b44122d91db8b271c18e"), looks := false }, kinds := [], alts := [], laidByText := true, laidKinds := [.data, .pinned], laidTests := true, laidLooks := .later }
def DerUnlikeUptoCardSaid : Prop := Claim7.holds Tryz.pinned (.plain (OpenSpec.upto derUnlikeSpec)) derUnlikeUptoCard

/-- THE SECOND FORM's CARD OF 'oghamlaw15.DerSets'. -/
def derSetsUptoCard : Claim7 := { stood := { row := derSetsUptoRow, standIns := [], harness := (true, "dacb910dbd7beb9f4c378a0972b8fad537398d253503b44122d91db8b271c18e"), looks := false }, kinds := [], alts := [], laidByText := true, laidKinds := [.data, .pinned], laidTests := true, laidLooks := .later }
def DerSetsUptoCardSaid : Prop := Claim7.holds Tryz.pinned (.plain (OpenSpec.upto derSetsSpec)) derSetsUptoCard

/-- THE SECOND FORM's CARD OF 'oghamlaw15.DerLeaves'. -/
def derLeavesUptoCard : Claim7 := { stood := { row := derLeavesUptoRow, standIns := [], harness := (true, "dacb910dbd7beb9f4c378a0972b8fad537398d253503b44122d91db8b271c18e"), looks := false }, kinds := [], alts := [], laidByText := true, laidKinds := [.data, .pinned], laidTests := true, laidLooks := .later }
def DerLeavesUptoCardSaid : Prop := Claim7.holds Tryz.pinned (.plain (OpenSpec.upto derLeavesSpec)) derLeavesUptoCard

/-- THE SECOND FORM's CARD OF 'oghamlaw15.DerFields'. -/
def derFieldsUptoCard : Claim7 := { stood := { row := derFieldsUptoRow, standIns := [], harness := (true, "dacb910dbd7beb9f4c378a0972b8fad537398d253503b44122d91db8b271c18e"), looks := false }, kinds := [], alts := [], laidByText := true, laidKinds := [.data, .pinned], laidTests := true, laidLooks := .later }
def DerFieldsUptoCardSaid : Prop := Claim7.holds Tryz.pinned (.plain (OpenSpec.upto derFieldsSpec)) derFieldsUptoCard

/-- THE SECOND FORM's CARD OF 'oghamlaw16.DerinDecodes'. -/
def derinDecodesUptoCard : Claim7 := { stood := { row := derinDecodesUptoRow, standIns := [], harness := (true, "dacb910dbd7beb9f4c378a0972b8fad537398d253503b44122d91db8b271c18e"), looks := false }, kinds := [], alts := [], laidByText := true, laidKinds := [.data, .pinned], laidTests := true, laidLooks := .later }
def DerinDecodesUptoCardSaid : Prop := Claim7.holds Tryz.pinned (.plain (OpenSpec.upto derinDecodesSpec)) derinDecodesUptoCard

/-- THE SECOND FORM's CARD OF 'oghamlaw16.DerinBack'. -/
def derinBackUptoCard : Claim7 := { stood := { row := derinBackUptoRow, standIns := [], harness := (true, "dacb910dbd7beb9f4c378a0972b8fad537398d253503b44122d91db8b271c18e"), looks := false }, kinds := [], alts := [], laidByText := true, laidKinds := [.data, .pinned], laidTests := true, laidLooks := .later }
def DerinBackUptoCardSaid : Prop := Claim7.holds Tryz.pinned (.plain (OpenSpec.upto derinBackSpec)) derinBackUptoCard

/-- THE SECOND FORM's CARD OF 'oghamlaw16.DerinLong'. -/
def derinLongUptoCard : Claim7 := { stood := { row := derinLongUptoRow, standIns := [], harness := (true, "dacb910dbd7beb9f4c378a0972b8fad537398d253503b44122d91db8b271c18e"), looks := false }, kinds := [], alts := [], laidByText := true, laidKinds := [.data, .pinned], laidTests := true, laidLooks := .later }
def DerinLongUptoCardSaid : Prop := Claim7.holds Tryz.pinned (.plain (OpenSpec.upto derinLongSpec)) derinLongUptoCard

/-- THE SECOND FORM's CARD OF 'oghamlaw16.DerinStrict'. -/
def derinStrictUptoCard : Claim7 := { stood := { row := derinStrictUptoRow, standIns := [], harness := (true, "dacb910dbd7beb9f4c378a0972b8fad537398d253503b44122d91db8b271c18e"), looks := false }, kinds := [], alts := [], laidByText := true, laidKinds := [.data, .pinned], laidTests := true, laidLooks := .later }
def DerinStrictUptoCardSaid : Prop := Claim7.holds Tryz.pinned (.plain (OpenSpec.upto derinStrictSpec)) derinStrictUptoCard

/-- THE SECOND FORM's CARD OF 'oghamlaw16.DerinOrder'. -/
def derinOrderUptoCard : Claim7 := { stood := { row := derinOrderUptoRow, standIns := [], harness := (true, "dacb910dbd7beb9f4c378a0972b8fad537398d253503b44122d91db8b271c18e"), looks := false }, kinds := [], alts := [], laidByText := true, laidKinds := [.data, .pinned], laidTests := true, laidLooks := .later }
def DerinOrderUptoCardSaid : Prop := Claim7.holds Tryz.pinned (.plain (OpenSpec.upto derinOrderSpec)) derinOrderUptoCard

/-- THE SECOND FORM's CARD OF 'oghamlaw16.DerinKeeps'. -/
def derinKeepsUptoCard : Claim7 := { stood := { row := derinKeepsUptoRow, standIns := [], harness := (true, "dacb910dbd7beb9f4c378a0972b8fad537398d253503b44122d91db8b271c18e"), looks := false }, kinds := [], alts := [], laidByText := true, laidKinds := [.data, .pinned], laidTests := true, laidLooks := .later }
def DerinKeepsUptoCardSaid : Prop := Claim7.holds Tryz.pinned (.plain (OpenSpec.upto derinKeepsSpec)) derinKeepsUptoCard
end Rows
end Go.Proofs.YtpbdnlclihogfaaGreatDoor
