/-
  DERIVED. GIVEN WITH THE SEED: THE CARDS: each row of YtnpcmeaplmfdlaaDoorRows.lean that lists a variable, with what it lists TIED to the program's text (the seventh form; the later family's looks); each row that meets fmt, with fmt's text TOLD by the authors' own Lean function (tested against real Go, not proved from fmt's source: count such statements apart). THE CARD IS WHAT COUNTS. Prove the row's statement (the work); the ties are given (YtnpcmeaplmfdlaaDoorTie.lean); close each card by the builder's one call (the guide's Derived/Test/ToyasCard.lean, 'card_holds'). Laid BY PROGRAM, IN A SANDBOX (cutbox-door.mjs). By AI agents, Wed Nov 11 2026. No macro, syntax, notation, axiom, sorry.
-/
import Derived.Test.YtnpcmeaplmfdlaaDoorRows
import GoSem.ClaimSeven
namespace Go.Proofs.YtnpcmeaplmfdlaaDoor
namespace Rows

/-- THE TIED CARD OF 'oghamlaw05.SyntaxSound'. -/
def syntaxSoundCard : Claim7 := { stood := { row := syntaxSoundRow, standIns := [], harness := (true, "f2dadb6be28dd93ea9f130bc8477e022b7651cd736df7c98eb8e9bc34d45d341"), looks := true }, kinds := [], alts := [], laidByText := true, laidKinds := [.data, .data, .data, .data, .sentinel, .sentinel, .pinned], laidTests := true, laidLooks := .later }
def SyntaxSoundCardSaid : Prop := Claim7.holds Tryd.pinned (.plain (OpenSpec.ofChange syntaxSoundSpec)) syntaxSoundCard

/-- THE SECOND FORM's CARD OF 'oghamlaw05.SyntaxSound'. -/
def syntaxSoundUptoCard : Claim7 := { stood := { row := syntaxSoundUptoRow, standIns := [], harness := (true, "f2dadb6be28dd93ea9f130bc8477e022b7651cd736df7c98eb8e9bc34d45d341"), looks := true }, kinds := [], alts := [], laidByText := true, laidKinds := [.data, .data, .data, .data, .sentinel, .sentinel, .pinned], laidTests := true, laidLooks := .later }
def SyntaxSoundUptoCardSaid : Prop := Claim7.holds Tryd.pinned (.plain (OpenSpec.upto syntaxSoundSpec)) syntaxSoundUptoCard
end Rows
end Go.Proofs.YtnpcmeaplmfdlaaDoor
