/-
  DERIVED. GIVEN WITH THE SEED: THE CARDS: each row of YtdfgcokapncaiaaGreatDoorRows.lean that lists a variable, with what it lists TIED to the program's text (the seventh form; the later family's looks); each row that meets fmt, with fmt's text TOLD by the authors' own Lean function (tested against real Go, not proved from fmt's source: count such statements apart). THE CARD IS WHAT COUNTS. Prove the row's statement (the work); the ties are given (YtdfgcokapncaiaaGreatDoorTie.lean); close each card by the builder's one call (the guide's Derived/Test/ToyasCard.lean, 'card_holds'). Laid BY PROGRAM, IN A SANDBOX (cutbox-door.mjs). By AI agents, Wed Nov 11 2026. No macro, syntax, notation, axiom, sorry.
-/
import Derived.Test.YtdfgcokapncaiaaGreatDoorRows
import GoSem.ClaimSeven
namespace Go.Proofs.YtdfgcokapncaiaaGreatDoor
namespace Rows

/-- THE TIED CARD OF 'oghamlaw23.StoreTexts'. -/
def storeTextsCard : Claim7 := { stood := { row := storeTextsRow, standIns := [], harness := (true, "de6b116272a97d424c5cfa633598d7b9292c7f2393f2c0ec08de5e42f11583dd"), looks := true }, kinds := [], alts := [], laidByText := true, laidKinds := [.data, .data, .data, .data, .sentinel, .sentinel, .pinned], laidTests := true, laidLooks := .later }
def StoreTextsCardSaid : Prop := Claim7.holds Tryz.pinned (.plain (OpenSpec.ofChange storeTextsSpec)) storeTextsCard

/-- THE SECOND FORM's CARD OF 'oghamlaw23.StoreTexts'. -/
def storeTextsUptoCard : Claim7 := { stood := { row := storeTextsUptoRow, standIns := [], harness := (true, "de6b116272a97d424c5cfa633598d7b9292c7f2393f2c0ec08de5e42f11583dd"), looks := true }, kinds := [], alts := [], laidByText := true, laidKinds := [.data, .data, .data, .data, .sentinel, .sentinel, .pinned], laidTests := true, laidLooks := .later }
def StoreTextsUptoCardSaid : Prop := Claim7.holds Tryz.pinned (.plain (OpenSpec.upto storeTextsSpec)) storeTextsUptoCard
end Rows
end Go.Proofs.YtdfgcokapncaiaaGreatDoor
