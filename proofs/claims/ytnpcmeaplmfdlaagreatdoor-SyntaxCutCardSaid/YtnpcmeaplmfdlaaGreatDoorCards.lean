/-
  DERIVED. GIVEN WITH THE SEED: THE CARDS: each row of YtnpcmeaplmfdlaaGreatDoorRows.lean that lists a variable, with what it lists TIED to the program's text (the seventh form; the later family's looks); each row that meets fmt, with fmt's text TOLD by the authors' own Lean function (tested against real Go, not proved from fmt's source: count such statements apart). THE CARD IS WHAT COUNTS. Prove the row's statement (the work); the ties are given (YtnpcmeaplmfdlaaGreatDoorTie.lean); close each card by the builder's one call (the guide's Derived/Test/ToyasCard.lean, 'card_holds'). Laid BY PROGRAM, IN A SANDBOX (cutbox-door.mjs). By AI agents, Wed Nov 11 2026. No macro, syntax, notation, axiom, sorry.
-/
import Derived.Test.YtnpcmeaplmfdlaaGreatDoorRows
import GoSem.ClaimSeven
namespace Go.Proofs.YtnpcmeaplmfdlaaGreatDoor
namespace Rows

/-- THE TIED CARD OF 'oghamlaw05.SyntaxParses'. -/
def syntaxParsesCard : Claim7 := { stood := { row := syntaxParsesRow, standIns := [], harness := (true, "d2c22bf17c56c96a8aa7e3cbb91c5574005c4861afd86f3619d7596445cce738"), looks := true }, kinds := [], alts := [], laidByText := true, laidKinds := [.data, .data, .data, .data, .sentinel, .sentinel, .pinned], laidTests := true, laidLooks := .later }
def SyntaxParsesCardSaid : Prop := Claim7.holds Tryz.pinned (.plain (OpenSpec.ofChange syntaxParsesSpec)) syntaxParsesCard

/-- THE TIED CARD OF 'oghamlaw05.SyntaxCut'. -/
def syntaxCutCard : Claim7 := { stood := { row := syntaxCutRow, standIns := [], harness := (true, "d2c22bf17c56c96a8aa7e3cbb91c5574005c4861afd86f3619d7596445cce738"), looks := true }, kinds := [], alts := [], laidByText := true, laidKinds := [.data, .data, .data, .data, .sentinel, .sentinel, .pinned], laidTests := true, laidLooks := .later }
def SyntaxCutCardSaid : Prop := Claim7.holds Tryz.pinned (.plain (OpenSpec.ofChange syntaxCutSpec)) syntaxCutCard

/-- THE SECOND FORM's CARD OF 'oghamlaw05.SyntaxParses'. -/
def syntaxParsesUptoCard : Claim7 := { stood := { row := syntaxParsesUptoRow, standIns := [], harness := (true, "d2c22bf17c56c96a8aa7e3cbb91c5574005c4861afd86f3619d7596445cce738"), looks := true }, kinds := [], alts := [], laidByText := true, laidKinds := [.data, .data, .data, .data, .sentinel, .sentinel, .pinned], laidTests := true, laidLooks := .later }
def SyntaxParsesUptoCardSaid : Prop := Claim7.holds Tryz.pinned (.plain (OpenSpec.upto syntaxParsesSpec)) syntaxParsesUptoCard

/-- THE SECOND FORM's CARD OF 'oghamlaw05.SyntaxCut'. -/
def syntaxCutUptoCard : Claim7 := { stood := { row := syntaxCutUptoRow, standIns := [], harness := (true, "d2c22bf17c56c96a8aa7e3cbb91c5574005c4861afd86f3619d7596445cce738"), looks := true }, kinds := [], alts := [], laidByText := true, laidKinds := [.data, .data, .data, .data, .sentinel, .sentinel, .pinned], laidTests := true, laidLooks := .later }
def SyntaxCutUptoCardSaid : Prop := Claim7.holds Tryz.pinned (.plain (OpenSpec.upto syntaxCutSpec)) syntaxCutUptoCard
end Rows
end Go.Proofs.YtnpcmeaplmfdlaaGreatDoor
