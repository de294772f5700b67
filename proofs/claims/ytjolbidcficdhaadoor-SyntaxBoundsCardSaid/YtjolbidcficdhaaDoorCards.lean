/-
  DERIVED. GIVEN WITH THE SEED: THE CARDS: each row of YtjolbidcficdhaaDoorRows.lean that lists a variable, with what it lists TIED to the program's text (the seventh form; the later family's looks); each row that meets fmt, with fmt's text TOLD by the authors' own Lean function (tested against real Go, not proved from fmt's source: count such statements apart). THE CARD IS WHAT COUNTS. Prove the row's statement (the work); the ties are given (YtjolbidcficdhaaDoorTie.lean); close each card by the builder's one call (the guide's Derived/Test/ToyasCard.lean, 'card_holds'). Laid BY PROGRAM, IN A SANDBOX (cutbox-door.mjs). By AI agents, Wed Nov 11 2026. No macro, syntax, notation, axiom, sorry.
-/
import Derived.Test.YtjolbidcficdhaaDoorRows
import GoSem.ClaimSeven
namespace Go.Proofs.YtjolbidcficdhaaDoor
namespace Rows

/-- THE TIED CARD OF 'oghamlaw05.SyntaxSound'. -/
def syntaxSoundCard : Claim7 := { stood := { row := syntaxSoundRow, standIns := [], harness := (true, "e4c9c5b4c774b1f1f3abfd2e45ff25f85e70357d2b7f9a8d209535c859491d23"), looks := true }, kinds := [], alts := [], laidByText := true, laidKinds := [.data, .data, .data, .data, .sentinel, .sentinel, .pinned], laidTests := true, laidLooks := .later }
def SyntaxSoundCardSaid : Prop := Claim7.holds Tryd.pinned (.plain (OpenSpec.ofChange syntaxSoundSpec)) syntaxSoundCard

/-- THE TIED CARD OF 'oghamlaw05.SyntaxBounds'. -/
def syntaxBoundsCard : Claim7 := { stood := { row := syntaxBoundsRow, standIns := [], harness := (true, "e4c9c5b4c774b1f1f3abfd2e45ff25f85e70357d2b7f9a8d209535c859491d23"), looks := true }, kinds := [], alts := [], laidByText := true, laidKinds := [.data, .data, .data, .data, .sentinel, .sentinel, .pinned], laidTests := true, laidLooks := .later }
def SyntaxBoundsCardSaid : Prop := Claim7.holds Tryd.pinned (.plain (OpenSpec.ofChange syntaxBoundsSpec)) syntaxBoundsCard

/-- THE TIED CARD OF 'oghamlaw05.SyntaxMarks'. -/
def syntaxMarksCard : Claim7 := { stood := { row := syntaxMarksRow, standIns := [], harness := (true, "e4c9c5b4c774b1f1f3abfd2e45ff25f85e70357d2b7f9a8d209535c859491d23"), looks := true }, kinds := [], alts := [], laidByText := true, laidKinds := [.data, .data, .data, .data, .sentinel, .sentinel, .pinned], laidTests := true, laidLooks := .later }
def SyntaxMarksCardSaid : Prop := Claim7.holds Tryd.pinned (.plain (OpenSpec.ofChange syntaxMarksSpec)) syntaxMarksCard

/-- THE SECOND FORM's CARD OF 'oghamlaw05.SyntaxSound'. -/
def syntaxSoundUptoCard : Claim7 := { stood := { row := syntaxSoundUptoRow, standIns := [], harness := (true, "e4c9c5b4c774b1f1f3abfd2e45ff25f85e70357d2b7f9a8d209535c859491d23"), looks := true }, kinds := [], alts := [], laidByText := true, laidKinds := [.data, .data, .data, .data, .sentinel, .sentinel, .pinned], laidTests := true, laidLooks := .later }
def SyntaxSoundUptoCardSaid : Prop := Claim7.holds Tryd.pinned (.plain (OpenSpec.upto syntaxSoundSpec)) syntaxSoundUptoCard

/-- THE SECOND FORM's CARD OF 'oghamlaw05.SyntaxBounds'. -/
def syntaxBoundsUptoCard : Claim7 := { stood := { row := syntaxBoundsUptoRow, standIns := [], harness := (true, "e4c9c5b4c774b1f1f3abfd2e45ff25f85e70357d2b7f9a8d209535c859491d23"), looks := true }, kinds := [], alts := [], laidByText := true, laidKinds := [.data, .data, .data, .data, .sentinel, .sentinel, .pinned], laidTests := true, laidLooks := .later }
def SyntaxBoundsUptoCardSaid : Prop := Claim7.holds Tryd.pinned (.plain (OpenSpec.upto syntaxBoundsSpec)) syntaxBoundsUptoCard

/-- THE SECOND FORM's CARD OF 'oghamlaw05.SyntaxMarks'. -/
def syntaxMarksUptoCard : Claim7 := { stood := { row := syntaxMarksUptoRow, standIns := [], harness := (true, "e4c9c5b4c774b1f1f3abfd2e45ff25f85e70357d2b7f9a8d209535c859491d23"), looks := true }, kinds := [], alts := [], laidByText := true, laidKinds := [.data, .data, .data, .data, .sentinel, .sentinel, .pinned], laidTests := true, laidLooks := .later }
def SyntaxMarksUptoCardSaid : Prop := Claim7.holds Tryd.pinned (.plain (OpenSpec.upto syntaxMarksSpec)) syntaxMarksUptoCard
end Rows
end Go.Proofs.YtjolbidcficdhaaDoor
