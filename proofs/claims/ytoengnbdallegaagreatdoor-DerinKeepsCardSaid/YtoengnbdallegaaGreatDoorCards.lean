/-
  DERIVED. GIVEN WITH THE SEED: THE CARDS: each row of YtoengnbdallegaaGreatDoorRows.lean that lists a variable, with what it lists TIED to the program's text (the seventh form; the later family's looks); each row that meets fmt, with fmt's text TOLD by the authors' own Lean function (tested against real Go, not proved from fmt's source: count such statements apart). THE CARD IS WHAT COUNTS. Prove the row's statement (the work); the ties are given (YtoengnbdallegaaGreatDoorTie.lean); close each card by the builder's one call (the guide's Derived/Test/ToyasCard.lean, 'card_holds'). Laid BY PROGRAM, IN A SANDBOX (cutbox-door.mjs). By AI agents, Wed Nov 11 2026. No macro, syntax, notation, axiom, sorry.
-/
import Derived.Test.YtoengnbdallegaaGreatDoorRows
import GoSem.ClaimSeven
namespace Go.Proofs.YtoengnbdallegaaGreatDoor
namespace Rows

/-- THE TIED CARD OF 'oghamlaw16.DerinStrict'. -/
def derinStrictCard : Claim7 := { stood := { row := derinStrictRow, standIns := [], harness := (true, "05d59e2bc165095a4b96d348c92ec45cbfdd7ecc2f46ae15deb9f1da78fdd67b"), looks := false }, kinds := [], alts := [], laidByText := true, laidKinds := [.data, .pinned], laidTests := true, laidLooks := .later }
def DerinStrictCardSaid : Prop := Claim7.holds Tryz.pinned (.plain (OpenSpec.ofChange derinStrictSpec)) derinStrictCard

/-- THE TIED CARD OF 'oghamlaw16.DerinOrder'. -/
def derinOrderCard : Claim7 := { stood := { row := derinOrderRow, standIns := [], harness := (true, "05d59e2bc165095a4b96d348c92ec45cbfdd7ecc2f46ae15deb9f1da78fdd67b"), looks := false }, kinds := [], alts := [], laidByText := true, laidKinds := [.data, .pinned], laidTests := true, laidLooks := .later }
def DerinOrderCardSaid : Prop := Claim7.holds Tryz.pinned (.plain (OpenSpec.ofChange derinOrderSpec)) derinOrderCard

/-- THE TIED CARD OF 'oghamlaw16.DerinKeeps'. -/
def derinKeepsCard : Claim7 := { stood := { row := derinKeepsRow, standIns := [], harness := (true, "05d59e2bc165095a4b96d348c92ec45cbfdd7ecc2f46ae15deb9f1da78fdd67b"), looks := false }, kinds := [], alts := [], laidByText := true, laidKinds := [.data, .pinned], laidTests := true, laidLooks := .later }
def DerinKeepsCardSaid : Prop := Claim7.holds Tryz.pinned (.plain (OpenSpec.ofChange derinKeepsSpec)) derinKeepsCard

/-- THE SECOND FORM's CARD OF 'oghamlaw16.DerinStrict'. -/
def derinStrictUptoCard : Claim7 := { stood := { row := derinStrictUptoRow, standIns := [], harness := (true, "05d59e2bc165095a4b96d348c92ec45cbfdd7ecc2f46ae15deb9f1da78fdd67b"), looks := false }, kinds := [], alts := [], laidByText := true, laidKinds := [.data, .pinned], laidTests := true, laidLooks := .later }
def DerinStrictUptoCardSaid : Prop := Claim7.holds Tryz.pinned (.plain (OpenSpec.upto derinStrictSpec)) derinStrictUptoCard

/-- THE SECOND FORM's CARD OF 'oghamlaw16.DerinOrder'. -/
def derinOrderUptoCard : Claim7 := { stood := { row := derinOrderUptoRow, standIns := [], harness := (true, "05d59e2bc165095a4b96d348c92ec45cbfdd7ecc2f46ae15deb9f1da78fdd67b"), looks := false }, kinds := [], alts := [], laidByText := true, laidKinds := [.data, .pinned], laidTests := true, laidLooks := .later }
def DerinOrderUptoCardSaid : Prop := Claim7.holds Tryz.pinned (.plain (OpenSpec.upto derinOrderSpec)) derinOrderUptoCard

/-- THE SECOND FORM's CARD OF 'oghamlaw16.DerinKeeps'. -/
def derinKeepsUptoCard : Claim7 := { stood := { row := derinKeepsUptoRow, standIns := [], harness := (true, "05d59e2bc165095a4b96d348c92ec45cbfdd7ecc2f46ae15deb9f1da78fdd67b"), looks := false }, kinds := [], alts := [], laidByText := true, laidKinds := [.data, .pinned], laidTests := true, laidLooks := .later }
def DerinKeepsUptoCardSaid : Prop := Claim7.holds Tryz.pinned (.plain (OpenSpec.upto derinKeepsSpec)) derinKeepsUptoCard
end Rows
end Go.Proofs.YtoengnbdallegaaGreatDoor
