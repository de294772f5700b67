/-
  NARROWER THAN 'FOR EVERY INPUT', by the rows' own cells (each row's printed sentence says how): UperWidths: laid · UperPreamble: laid · UperIntegers: laid · UperChoices: laid · UperinBits: laid · UperinSlots: laid · UperinOpen: laid · UperinLong: laid.
  DERIVED. THE GIVEN ROWS OF THIS SEAT. 8 by the template 'for every input the law returns true; each argument reads behind the call as it read before'; 0 by the template 'total and deterministic' (their statements: YtgjjnbddbbhloaaGreatDoorTotals.lean).
  GIVEN WITH THE SEED: the statements are not yours to turn. If you find one false, say at which input.
  Laid BY PROGRAM, IN A SANDBOX (cutbox-rows.mjs): the forced cells as the released guide's own fill.sh prints them over the translation 780f6d56a33d5fca… (all of the seat's roots in one cut). By AI agents, Wed Nov 11 2026. No macro, syntax, notation, axiom, sorry.
-/
import Derived.Test.YtgjjnbddbbhloaaGreatDoorChecked
import GoSem.PinnedTables
import GoSem.Claim
import GoSem.ClaimJoined
import GoSem.ClaimMapViews
import Derived.JoinedTies
import Derived.KernelRfl
namespace Go.Proofs.YtgjjnbddbbhloaaGreatDoor
/- THE CELL 'sum', in the pinned program and in every row, IS THE sha256 OF THE DUMP (.gsa) THAT YtgjjnbddbbhloaaGreatDoorProg.lean LOADS. Nothing in Lean hashes anything: it is a label: what it is worth is what the hold of that sum in a sandbox is worth. -/
noncomputable def Tryz.pinned : Pinned := { name := "ytgjjnbddbbhloaagreatdoor", sum := "780f6d56a33d5fcaef68264d3aa5f1421481a47b570c01a962684fd41cb30e5f", checked := Tryz.checked }
namespace Rows
def none {H : Type} : Left H := { results := [], args := [] }

/- WHAT THE LISTED PACKAGE-LEVEL VARIABLES READ AS WHEN THE CALL BEGINS. Each datum BY PROGRAM (the guide's laid-datum.mjs) off the statement by which the dump's own 'gosem.cut.vars' lays the variable. In a bare row this is a premise. The card (YtgjjnbddbbhloaaGreatDoorCards.lean) ties it to the program's text. -/
def laid_unicode_utf8_acceptRanges {H : Type} : DataW H := .agg [.agg [.lit (.int .u8 128), .lit (.int .u8 191)], .agg [.lit (.int .u8 160), .lit (.int .u8 191)], .agg [.lit (.int .u8 128), .lit (.int .u8 159)], .agg [.lit (.int .u8 144), .lit (.int .u8 191)], .agg [.lit (.int .u8 128), .lit (.int .u8 143)], .agg [.lit (.int .u8 0), .lit (.int .u8 0)], .agg [.lit (.int .u8 0), .lit (.int .u8 0)], .agg [.lit (.int .u8 0), .lit (.int .u8 0)], .agg [.lit (.int .u8 0), .lit (.int .u8 0)], .agg [.lit (.int .u8 0), .lit (.int .u8 0)], .agg [.lit (.int .u8 0), .lit (.int .u8 0)], .agg [.lit (.int .u8 0), .lit (.int .u8 0)], .agg [.lit (.int .u8 0), .lit (.int .u8 0)], .agg [.lit (.int .u8 0), .lit (.int .u8 0)], .agg [.lit (.int .u8 0), .lit (.int .u8 0)], .agg [.lit (.int .u8 0), .lit (.int .u8 0)]]
/-- One of Go's own tables, pinned by name: the form's constant. -/
def laid_unicode_utf8_first : DataW Unit := Go.Pinned.utf8First

/-- 'oghamlaw19.UperWidths': WHATEVER THE INPUT: true; the input reads as it did. -/
def uperWidthsSpec : ChangeSpec := { name := "uperWidths", fn := fun _ => fun
  | [d1, d2, d3, d4] => { results := [.lit (.bool true)], args := [d1, d2, d3, d4] }
  | _ => none }
def uperWidthsRow : OpenClaim := { program := "ytgjjnbddbbhloaagreatdoor", sum := "780f6d56a33d5fcaef68264d3aa5f1421481a47b570c01a962684fd41cb30e5f", func := "ogham/oghamlaw19.UperWidths", spec := "uperWidths", unfollowed := true, recurses := true, named := ["unicode/utf8.first", "unicode/utf8.acceptRanges"], apart := false, laid := [("unicode/utf8.acceptRanges", laid_unicode_utf8_acceptRanges), ("unicode/utf8.first", laid_unicode_utf8_first)] }
def UperWidthsSaid : Prop := uperWidthsRow.holds Tryz.pinned (OpenSpec.ofChange uperWidthsSpec)

/-- ITS FALSE NEIGHBOUR: 'it returns false'. Refute it at one input. -/
def uperWidthsWrong : ChangeSpec := { name := "uperWidths", fn := fun _ => fun
  | [d1, d2, d3, d4] => { results := [.lit (.bool false)], args := [d1, d2, d3, d4] }
  | _ => none }
def UperWidthsWrongFalsely : Prop := uperWidthsRow.holds Tryz.pinned (OpenSpec.ofChange uperWidthsWrong)

/-- 'oghamlaw19.UperPreamble': WHATEVER THE INPUT: true; the input reads as it did. -/
def uperPreambleSpec : ChangeSpec := { name := "uperPreamble", fn := fun _ => fun
  | [d1, d2, d3] => { results := [.lit (.bool true)], args := [d1, d2, d3] }
  | _ => none }
def uperPreambleRow : OpenClaim := { program := "ytgjjnbddbbhloaagreatdoor", sum := "780f6d56a33d5fcaef68264d3aa5f1421481a47b570c01a962684fd41cb30e5f", func := "ogham/oghamlaw19.UperPreamble", spec := "uperPreamble", unfollowed := true, recurses := true, named := ["unicode/utf8.first", "unicode/utf8.acceptRanges"], apart := false, laid := [("unicode/utf8.acceptRanges", laid_unicode_utf8_acceptRanges), ("unicode/utf8.first", laid_unicode_utf8_first)] }
def UperPreambleSaid : Prop := uperPreambleRow.holds Tryz.pinned (OpenSpec.ofChange uperPreambleSpec)

/-- ITS FALSE NEIGHBOUR: 'it returns false'. Refute it at one input. -/
def uperPreambleWrong : ChangeSpec := { name := "uperPreamble", fn := fun _ => fun
  | [d1, d2, d3] => { results := [.lit (.bool false)], args := [d1, d2, d3] }
  | _ => none }
def UperPreambleWrongFalsely : Prop := uperPreambleRow.holds Tryz.pinned (OpenSpec.ofChange uperPreambleWrong)

/-- 'oghamlaw19.UperIntegers': WHATEVER THE INPUT: true; the input reads as it did. -/
def uperIntegersSpec : ChangeSpec := { name := "uperIntegers", fn := fun _ => fun
  | [d1, d2, d3, d4] => { results := [.lit (.bool true)], args := [d1, d2, d3, d4] }
  | _ => none }
def uperIntegersRow : OpenClaim := { program := "ytgjjnbddbbhloaagreatdoor", sum := "780f6d56a33d5fcaef68264d3aa5f1421481a47b570c01a962684fd41cb30e5f", func := "ogham/oghamlaw19.UperIntegers", spec := "uperIntegers", unfollowed := true, recurses := true, named := ["unicode/utf8.first", "unicode/utf8.acceptRanges"], apart := false, laid := [("unicode/utf8.acceptRanges", laid_unicode_utf8_acceptRanges), ("unicode/utf8.first", laid_unicode_utf8_first)] }
def UperIntegersSaid : Prop := uperIntegersRow.holds Tryz.pinned (OpenSpec.ofChange uperIntegersSpec)

/-- ITS FALSE NEIGHBOUR: 'it returns false'. Refute it at one input. -/
def uperIntegersWrong : ChangeSpec := { name := "uperIntegers", fn := fun _ => fun
  | [d1, d2, d3, d4] => { results := [.lit (.bool false)], args := [d1, d2, d3, d4] }
  | _ => none }
def UperIntegersWrongFalsely : Prop := uperIntegersRow.holds Tryz.pinned (OpenSpec.ofChange uperIntegersWrong)

/-- 'oghamlaw19.UperChoices': WHATEVER THE INPUT: true; the input reads as it did. -/
def uperChoicesSpec : ChangeSpec := { name := "uperChoices", fn := fun _ => fun
  | [d1, d2, d3] => { results := [.lit (.bool true)], args := [d1, d2, d3] }
  | _ => none }
def uperChoicesRow : OpenClaim := { program := "ytgjjnbddbbhloaagreatdoor", sum := "780f6d56a33d5fcaef68264d3aa5f1421481a47b570c01a962684fd41cb30e5f", func := "ogham/oghamlaw19.UperChoices", spec := "uperChoices", unfollowed := true, recurses := true, named := ["unicode/utf8.first", "unicode/utf8.acceptRanges"], apart := false, laid := [("unicode/utf8.acceptRanges", laid_unicode_utf8_acceptRanges), ("unicode/utf8.first", laid_unicode_utf8_first)] }
def UperChoicesSaid : Prop := uperChoicesRow.holds Tryz.pinned (OpenSpec.ofChange uperChoicesSpec)

/-- ITS FALSE NEIGHBOUR: 'it returns false'. Refute it at one input. -/
def uperChoicesWrong : ChangeSpec := { name := "uperChoices", fn := fun _ => fun
  | [d1, d2, d3] => { results := [.lit (.bool false)], args := [d1, d2, d3] }
  | _ => none }
def UperChoicesWrongFalsely : Prop := uperChoicesRow.holds Tryz.pinned (OpenSpec.ofChange uperChoicesWrong)

/-- 'oghamlaw20.UperinBits': WHATEVER THE INPUT: true; the input reads as it did. -/
def uperinBitsSpec : ChangeSpec := { name := "uperinBits", fn := fun _ => fun
  | [d1, d2, d3, d4] => { results := [.lit (.bool true)], args := [d1, d2, d3, d4] }
  | _ => none }
def uperinBitsRow : OpenClaim := { program := "ytgjjnbddbbhloaagreatdoor", sum := "780f6d56a33d5fcaef68264d3aa5f1421481a47b570c01a962684fd41cb30e5f", func := "ogham/oghamlaw20.UperinBits", spec := "uperinBits", unfollowed := true, recurses := true, named := ["unicode/utf8.first", "unicode/utf8.acceptRanges"], apart := false, laid := [("unicode/utf8.acceptRanges", laid_unicode_utf8_acceptRanges), ("unicode/utf8.first", laid_unicode_utf8_first)] }
def UperinBitsSaid : Prop := uperinBitsRow.holds Tryz.pinned (OpenSpec.ofChange uperinBitsSpec)

/-- ITS FALSE NEIGHBOUR: 'it returns false'. Refute it at one input. -/
def uperinBitsWrong : ChangeSpec := { name := "uperinBits", fn := fun _ => fun
  | [d1, d2, d3, d4] => { results := [.lit (.bool false)], args := [d1, d2, d3, d4] }
  | _ => none }
def UperinBitsWrongFalsely : Prop := uperinBitsRow.holds Tryz.pinned (OpenSpec.ofChange uperinBitsWrong)

/-- 'oghamlaw20.UperinSlots': WHATEVER THE INPUT: true; the input reads as it did. -/
def uperinSlotsSpec : ChangeSpec := { name := "uperinSlots", fn := fun _ => fun
  | [d1, d2, d3] => { results := [.lit (.bool true)], args := [d1, d2, d3] }
  | _ => none }
def uperinSlotsRow : OpenClaim := { program := "ytgjjnbddbbhloaagreatdoor", sum := "780f6d56a33d5fcaef68264d3aa5f1421481a47b570c01a962684fd41cb30e5f", func := "ogham/oghamlaw20.UperinSlots", spec := "uperinSlots", unfollowed := true, recurses := true, named := ["unicode/utf8.first", "unicode/utf8.acceptRanges"], apart := false, laid := [("unicode/utf8.acceptRanges", laid_unicode_utf8_acceptRanges), ("unicode/utf8.first", laid_unicode_utf8_first)] }
def UperinSlotsSaid : Prop := uperinSlotsRow.holds Tryz.pinned (OpenSpec.ofChange uperinSlotsSpec)

/-- ITS FALSE NEIGHBOUR: 'it returns false'. Refute it at one input. -/
def uperinSlotsWrong : ChangeSpec := { name := "uperinSlots", fn := fun _ => fun
  | [d1, d2, d3] => { results := [.lit (.bool false)], args := [d1, d2, d3] }
  | _ => none }
def UperinSlotsWrongFalsely : Prop := uperinSlotsRow.holds Tryz.pinned (OpenSpec.ofChange uperinSlotsWrong)

/-- 'oghamlaw20.UperinOpen': WHATEVER THE INPUT: true; the input reads as it did. -/
def uperinOpenSpec : ChangeSpec := { name := "uperinOpen", fn := fun _ => fun
  | [d] => { results := [.lit (.bool true)], args := [d] }
  | _ => none }
def uperinOpenRow : OpenClaim := { program := "ytgjjnbddbbhloaagreatdoor", sum := "780f6d56a33d5fcaef68264d3aa5f1421481a47b570c01a962684fd41cb30e5f", func := "ogham/oghamlaw20.UperinOpen", spec := "uperinOpen", unfollowed := true, recurses := true, named := ["unicode/utf8.first", "unicode/utf8.acceptRanges"], apart := false, laid := [("unicode/utf8.acceptRanges", laid_unicode_utf8_acceptRanges), ("unicode/utf8.first", laid_unicode_utf8_first)] }
def UperinOpenSaid : Prop := uperinOpenRow.holds Tryz.pinned (OpenSpec.ofChange uperinOpenSpec)

/-- ITS FALSE NEIGHBOUR: 'it returns false'. Refute it at one input. -/
def uperinOpenWrong : ChangeSpec := { name := "uperinOpen", fn := fun _ => fun
  | [d] => { results := [.lit (.bool false)], args := [d] }
  | _ => none }
def UperinOpenWrongFalsely : Prop := uperinOpenRow.holds Tryz.pinned (OpenSpec.ofChange uperinOpenWrong)

/-- 'oghamlaw20.UperinLong': WHATEVER THE INPUT: true; the input reads as it did. -/
def uperinLongSpec : ChangeSpec := { name := "uperinLong", fn := fun _ => fun
  | [d1, d2] => { results := [.lit (.bool true)], args := [d1, d2] }
  | _ => none }
def uperinLongRow : OpenClaim := { program := "ytgjjnbddbbhloaagreatdoor", sum := "780f6d56a33d5fcaef68264d3aa5f1421481a47b570c01a962684fd41cb30e5f", func := "ogham/oghamlaw20.UperinLong", spec := "uperinLong", unfollowed := true, recurses := true, named := ["unicode/utf8.first", "unicode/utf8.acceptRanges"], apart := false, laid := [("unicode/utf8.acceptRanges", laid_unicode_utf8_acceptRanges), ("unicode/utf8.first", laid_unicode_utf8_first)] }
def UperinLongSaid : Prop := uperinLongRow.holds Tryz.pinned (OpenSpec.ofChange uperinLongSpec)

/-- ITS FALSE NEIGHBOUR: 'it returns false'. Refute it at one input. -/
def uperinLongWrong : ChangeSpec := { name := "uperinLong", fn := fun _ => fun
  | [d1, d2] => { results := [.lit (.bool false)], args := [d1, d2] }
  | _ => none }
def UperinLongWrongFalsely : Prop := uperinLongRow.holds Tryz.pinned (OpenSpec.ofChange uperinLongWrong)

/- THE SECOND FORM. 'bulk': how many values and letters a reading holds, each counted each time it is reached (what is shared counts as often as it is met; a slice's spare places count too). A statement '..UptoSaid' is the law's where the arguments, and the package variables that the reading takes, are together of bulk at most 1048576: NARROWER than '..Said'. Prove '..Said' where nothing that the law and all that it calls make is longer than what came in: it says more and counts as full. Else prove '..UptoSaid'. A law counts once. -/
mutual
def uptoBulk {H : Type} : DataW H → Nat
  | .lit (.string bytes) => bytes.length + 1
  | .lit _ => 1
  | .nil => 1
  | .ptr d => uptoBulk d + 1
  | .slice elems spare => uptoBulkAll elems + uptoBulkAll spare + 1
  | .agg parts => uptoBulkAll parts + 1
  | .iface _ d => uptoBulk d + 1
  | .map entries => uptoBulkEntries entries + 1
  | .held _ => 1
def uptoBulkAll {H : Type} : List (DataW H) → Nat
  | [] => 0
  | d :: r => uptoBulk d + uptoBulkAll r
def uptoBulkEntries {H : Type} : List (Lit × DataW H) → Nat
  | [] => 0
  | x :: r => uptoBulkEntry x + uptoBulkEntries r
def uptoBulkEntry {H : Type} : Lit × DataW H → Nat
  | (.string bytes, d) => bytes.length + uptoBulk d + 1
  | (_, d) => uptoBulk d + 1
 end
def uptoSmall : (H : Type) → List (DataW H) → Bool := fun _ ds => decide (uptoBulkAll ds ≤ 1048576)
def OpenSpec.upto (s : _root_.Go.ChangeSpec) : _root_.Go.OpenSpec := { _root_.Go.OpenSpec.ofChange s with cond := some uptoSmall }

/-- 'oghamlaw19.UperWidths', WHERE WHAT IT READS IS OF BULK AT MOST 1048576: true; the input reads as it did. -/
def uperWidthsUptoRow : OpenClaim := { program := "ytgjjnbddbbhloaagreatdoor", sum := "780f6d56a33d5fcaef68264d3aa5f1421481a47b570c01a962684fd41cb30e5f", func := "ogham/oghamlaw19.UperWidths", spec := "uperWidths", unfollowed := true, recurses := true, named := ["unicode/utf8.first", "unicode/utf8.acceptRanges"], apart := false, laid := [("unicode/utf8.acceptRanges", laid_unicode_utf8_acceptRanges), ("unicode/utf8.first", laid_unicode_utf8_first)], narrowed := true }
def UperWidthsUptoSaid : Prop := uperWidthsUptoRow.holds Tryz.pinned (OpenSpec.upto uperWidthsSpec)

/-- 'oghamlaw19.UperPreamble', WHERE WHAT IT READS IS OF BULK AT MOST 1048576: true; the input reads as it did. -/
def uperPreambleUptoRow : OpenClaim := { program := "ytgjjnbddbbhloaagreatdoor", sum := "780f6d56a33d5fcaef68264d3aa5f1421481a47b570c01a962684fd41cb30e5f", func := "ogham/oghamlaw19.UperPreamble", spec := "uperPreamble", unfollowed := true, recurses := true, named := ["unicode/utf8.first", "unicode/utf8.acceptRanges"], apart := false, laid := [("unicode/utf8.acceptRanges", laid_unicode_utf8_acceptRanges), ("unicode/utf8.first", laid_unicode_utf8_first)], narrowed := true }
def UperPreambleUptoSaid : Prop := uperPreambleUptoRow.holds Tryz.pinned (OpenSpec.upto uperPreambleSpec)

/-- 'oghamlaw19.UperIntegers', WHERE WHAT IT READS IS OF BULK AT MOST 1048576: true; the input reads as it did. -/
def uperIntegersUptoRow : OpenClaim := { program := "ytgjjnbddbbhloaagreatdoor", sum := "780f6d56a33d5fcaef68264d3aa5f1421481a47b570c01a962684fd41cb30e5f", func := "ogham/oghamlaw19.UperIntegers", spec := "uperIntegers", unfollowed := true, recurses := true, named := ["unicode/utf8.first", "unicode/utf8.acceptRanges"], apart := false, laid := [("unicode/utf8.acceptRanges", laid_unicode_utf8_acceptRanges), ("unicode/utf8.first", laid_unicode_utf8_first)], narrowed := true }
def UperIntegersUptoSaid : Prop := uperIntegersUptoRow.holds Tryz.pinned (OpenSpec.upto uperIntegersSpec)

/-- 'oghamlaw19.UperChoices', WHERE WHAT IT READS IS OF BULK AT MOST 1048576: true; the input reads as it did. -/
def uperChoicesUptoRow : OpenClaim := { program := "ytgjjnbddbbhloaagreatdoor", sum := "780f6d56a33d5fcaef68264d3aa5f1421481a47b570c01a962684fd41cb30e5f", func := "ogham/oghamlaw19.UperChoices", spec := "uperChoices", unfollowed := true, recurses := true, named := ["unicode/utf8.first", "unicode/utf8.acceptRanges"], apart := false, laid := [("unicode/utf8.acceptRanges", laid_unicode_utf8_acceptRanges), ("unicode/utf8.first", laid_unicode_utf8_first)], narrowed := true }
def UperChoicesUptoSaid : Prop := uperChoicesUptoRow.holds Tryz.pinned (OpenSpec.upto uperChoicesSpec)

/-- 'oghamlaw20.UperinBits', WHERE WHAT IT READS IS OF BULK AT MOST 1048576: true; the input reads as it did. -/
def uperinBitsUptoRow : OpenClaim := { program := "ytgjjnbddbbhloaagreatdoor", sum := "780f6d56a33d5fcaef68264d3aa5f1421481a47b570c01a962684fd41cb30e5f", func := "ogham/oghamlaw20.UperinBits", spec := "uperinBits", unfollowed := true, recurses := true, named := ["unicode/utf8.first", "unicode/utf8.acceptRanges"], apart := false, laid := [("unicode/utf8.acceptRanges", laid_unicode_utf8_acceptRanges), ("unicode/utf8.first", laid_unicode_utf8_first)], narrowed := true }
def UperinBitsUptoSaid : Prop := uperinBitsUptoRow.holds Tryz.pinned (OpenSpec.upto uperinBitsSpec)

/-- 'oghamlaw20.UperinSlots', WHERE WHAT IT READS IS OF BULK AT MOST 1048576: true; the input reads as it did. -/
def uperinSlotsUptoRow : OpenClaim := { program := "ytgjjnbddbbhloaagreatdoor", sum := "780f6d56a33d5fcaef68264d3aa5f1421481a47b570c01a962684fd41cb30e5f", func := "ogham/oghamlaw20.UperinSlots", spec := "uperinSlots", unfollowed := true, recurses := true, named := ["unicode/utf8.first", "unicode/utf8.acceptRanges"], apart := false, laid := [("unicode/utf8.acceptRanges", laid_unicode_utf8_acceptRanges), ("unicode/utf8.first", laid_unicode_utf8_first)], narrowed := true }
def UperinSlotsUptoSaid : Prop := uperinSlotsUptoRow.holds Tryz.pinned (OpenSpec.upto uperinSlotsSpec)

/-- 'oghamlaw20.UperinOpen', WHERE WHAT IT READS IS OF BULK AT MOST 1048576: true; the input reads as it did. -/
def uperinOpenUptoRow : OpenClaim := { program := "ytgjjnbddbbhloaagreatdoor", sum := "780f6d56a33d5fcaef68264d3aa5f1421481a47b570c01a962684fd41cb30e5f", func := "ogham/oghamlaw20.UperinOpen", spec := "uperinOpen", unfollowed := true, recurses := true, named := ["unicode/utf8.first", "unicode/utf8.acceptRanges"], apart := false, laid := [("unicode/utf8.acceptRanges", laid_unicode_utf8_acceptRanges), ("unicode/utf8.first", laid_unicode_utf8_first)], narrowed := true }
def UperinOpenUptoSaid : Prop := uperinOpenUptoRow.holds Tryz.pinned (OpenSpec.upto uperinOpenSpec)

/-- 'oghamlaw20.UperinLong', WHERE WHAT IT READS IS OF BULK AT MOST 1048576: true; the input reads as it did. -/
def uperinLongUptoRow : OpenClaim := { program := "ytgjjnbddbbhloaagreatdoor", sum := "780f6d56a33d5fcaef68264d3aa5f1421481a47b570c01a962684fd41cb30e5f", func := "ogham/oghamlaw20.UperinLong", spec := "uperinLong", unfollowed := true, recurses := true, named := ["unicode/utf8.first", "unicode/utf8.acceptRanges"], apart := false, laid := [("unicode/utf8.acceptRanges", laid_unicode_utf8_acceptRanges), ("unicode/utf8.first", laid_unicode_utf8_first)], narrowed := true }
def UperinLongUptoSaid : Prop := uperinLongUptoRow.holds Tryz.pinned (OpenSpec.upto uperinLongSpec)

end Rows
end Go.Proofs.YtgjjnbddbbhloaaGreatDoor
