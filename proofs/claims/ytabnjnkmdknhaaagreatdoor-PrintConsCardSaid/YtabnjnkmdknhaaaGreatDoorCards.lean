/-
  DERIVED. GIVEN WITH THE SEED: THE CARDS: each row of YtabnjnkmdknhaaaGreatDoorRows.lean that lists a variable, with what it lists TIED to the program's text (the seventh form; the later family's looks); each row that meets fmt, with fmt's text TOLD by the authors' own Lean function (tested against real Go, not proved from fmt's source: count such statements apart). THE CARD IS WHAT COUNTS. Prove the row's statement (the work); the ties are given (YtabnjnkmdknhaaaGreatDoorTie.lean); close each card by the builder's one call (the guide's Derived/Test/ToyasCard.lean, 'card_holds'). Laid BY PROGRAM, IN A SANDBOX (cutbox-door.mjs). By AI agents, Wed Nov 11 2026. No macro, syntax, notation, axiom, sorry.
-/
import Derived.Test.YtabnjnkmdknhaaaGreatDoorRows
import GoSem.ClaimSeven
namespace Go.Proofs.YtabnjnkmdknhaaaGreatDoor
namespace Rows

/-- THE TIED CARD OF 'oghamlaw06.PrintCons'. -/
def printConsCard : Claim7 := { stood := { row := printConsRow, standIns := [], harness := (true, "53542ab32bf253ee7d36bccf914e32c13ae30fb556dcde7768669665b30e37ab"), looks := true }, kinds := [], alts := [], laidByText := true, laidKinds := [.data, .data, .data, .data, .sentinel, .sentinel, .pinned], laidTests := true, laidLooks := .later }
def PrintConsCardSaid : Prop := Claim7.holds Tryz.pinned (.plain (OpenSpec.ofChange printConsSpec)) printConsCard

/-- THE SECOND FORM's CARD OF 'oghamlaw06.PrintCons'. -/
def printConsUptoCard : Claim7 := { stood := { row := printConsUptoRow, standIns := [], harness := (true, "53542ab32bf253ee7d36bccf914e32c13ae30fb556dcde7768669665b30e37ab"), looks := true }, kinds := [], alts := [], laidByText := true, laidKinds := [.data, .data, .data, .data, .sentinel, .sentinel, .pinned], laidTests := true, laidLooks := .later }
def PrintConsUptoCardSaid : Prop := Claim7.holds Tryz.pinned (.plain (OpenSpec.upto printConsSpec)) printConsUptoCard
end Rows
end Go.Proofs.YtabnjnkmdknhaaaGreatDoor
