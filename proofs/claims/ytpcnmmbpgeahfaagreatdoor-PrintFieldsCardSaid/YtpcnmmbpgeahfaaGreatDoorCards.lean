/-
  DERIVED. GIVEN WITH THE SEED: THE CARDS: each row of YtpcnmmbpgeahfaaGreatDoorRows.lean that lists a variable, with what it lists TIED to the program's text (the seventh form; the later family's looks); each row that meets fmt, with fmt's text TOLD by the authors' own Lean function (tested against real Go, not proved from fmt's source: count such statements apart). THE CARD IS WHAT COUNTS. Prove the row's statement (the work); the ties are given (YtpcnmmbpgeahfaaGreatDoorTie.lean); close each card by the builder's one call (the guide's Derived/Test/ToyasCard.lean, 'card_holds'). Laid BY PROGRAM, IN A SANDBOX (cutbox-door.mjs). By AI agents, Wed Nov 11 2026. No macro, syntax, notation, axiom, sorry.
-/
import Derived.Test.YtpcnmmbpgeahfaaGreatDoorRows
import GoSem.ClaimSeven
namespace Go.Proofs.YtpcnmmbpgeahfaaGreatDoor
namespace Rows

/-- THE TIED CARD OF 'oghamlaw06.PrintCons'. -/
def printConsCard : Claim7 := { stood := { row := printConsRow, standIns := [], harness := (true, "b68e22b58b4d5916a6246f832f95da52167dca12109970d62a5f222ba8abdeec"), looks := true }, kinds := [], alts := [], laidByText := true, laidKinds := [.data, .data, .data, .data, .sentinel, .sentinel, .pinned], laidTests := true, laidLooks := .later }
def PrintConsCardSaid : Prop := Claim7.holds Tryz.pinned (.plain (OpenSpec.ofChange printConsSpec)) printConsCard

/-- THE TIED CARD OF 'oghamlaw06.PrintFields'. -/
def printFieldsCard : Claim7 := { stood := { row := printFieldsRow, standIns := [], harness := (true, "b68e22b58b4d5916a6246f832f95da52167dca12109970d62a5f222ba8abdeec"), looks := true }, kinds := [], alts := [], laidByText := true, laidKinds := [.data, .data, .data, .data, .sentinel, .sentinel, .pinned], laidTests := true, laidLooks := .later }
def PrintFieldsCardSaid : Prop := Claim7.holds Tryz.pinned (.plain (OpenSpec.ofChange printFieldsSpec)) printFieldsCard

/-- THE SECOND FORM's CARD OF 'oghamlaw06.PrintCons'. -/
def printConsUptoCard : Claim7 := { stood := { row := printConsUptoRow, standIns := [], harness := (true, "b68e22b58b4d5916a6246f832f95da52167dca12109970d62a5f222ba8abdeec"), looks := true }, kinds := [], alts := [], laidByText := true, laidKinds := [.data, .data, .data, .data, .sentinel, .sentinel, .pinned], laidTests := true, laidLooks := .later }
def PrintConsUptoCardSaid : Prop := Claim7.holds Tryz.pinned (.plain (OpenSpec.upto printConsSpec)) printConsUptoCard

/-- THE SECOND FORM's CARD OF 'oghamlaw06.PrintFields'. -/
def printFieldsUptoCard : Claim7 := { stood := { row := printFieldsUptoRow, standIns := [], harness := (true, "b68e22b58b4d5916a6246f832f95da52167dca12109970d62a5f222ba8abdeec"), looks := true }, kinds := [], alts := [], laidByText := true, laidKinds := [.data, .data, .data, .data, .sentinel, .sentinel, .pinned], laidTests := true, laidLooks := .later }
def PrintFieldsUptoCardSaid : Prop := Claim7.holds Tryz.pinned (.plain (OpenSpec.upto printFieldsSpec)) printFieldsUptoCard
end Rows
end Go.Proofs.YtpcnmmbpgeahfaaGreatDoor
