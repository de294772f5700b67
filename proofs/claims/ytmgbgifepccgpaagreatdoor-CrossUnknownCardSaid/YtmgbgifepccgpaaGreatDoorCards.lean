/-
  DERIVED. GIVEN WITH THE SEED: THE CARDS: each row of YtmgbgifepccgpaaGreatDoorRows.lean that lists a variable, with what it lists TIED to the program's text (the seventh form; the later family's looks); each row that meets fmt, with fmt's text TOLD by the authors' own Lean function (tested against real Go, not proved from fmt's source: count such statements apart). THE CARD IS WHAT COUNTS. Prove the row's statement (the work); the ties are given (YtmgbgifepccgpaaGreatDoorTie.lean); close each card by the builder's one call (the guide's Derived/Test/ToyasCard.lean, 'card_holds'). Laid BY PROGRAM, IN A SANDBOX (cutbox-door.mjs). By AI agents, Wed Nov 11 2026. No macro, syntax, notation, axiom, sorry.
-/
import Derived.Test.YtmgbgifepccgpaaGreatDoorRows
import GoSem.ClaimSeven
namespace Go.Proofs.YtmgbgifepccgpaaGreatDoor
namespace Rows

/-- THE TIED CARD OF 'oghamlaw22.CrossUnknown'. -/
def crossUnknownCard : Claim7 := { stood := { row := crossUnknownRow, standIns := [], harness := (true, "f94843148e9206bbaa9050ffe01239337dbd20c1fbeae21af9d9dcb92dbe5c1d"), looks := false }, kinds := [], alts := [], laidByText := true, laidKinds := [.data, .pinned], laidTests := true, laidLooks := .later }
def CrossUnknownCardSaid : Prop := Claim7.holds Tryz.pinned (.plain (OpenSpec.ofChange crossUnknownSpec)) crossUnknownCard

/-- THE SECOND FORM's CARD OF 'oghamlaw22.CrossUnknown'. -/
def crossUnknownUptoCard : Claim7 := { stood := { row := crossUnknownUptoRow, standIns := [], harness := (true, "f94843148e9206bbaa9050ffe01239337dbd20c1fbeae21af9d9dcb92dbe5c1d"), looks := false }, kinds := [], alts := [], laidByText := true, laidKinds := [.data, .pinned], laidTests := true, laidLooks := .later }
def CrossUnknownUptoCardSaid : Prop := Claim7.holds Tryz.pinned (.plain (OpenSpec.upto crossUnknownSpec)) crossUnknownUptoCard
end Rows
end Go.Proofs.YtmgbgifepccgpaaGreatDoor
