/-
  DERIVED. GIVEN WITH THE SEED: THE CARDS: each row of YtgblfbajgpboiaaGreatDoorRows.lean that lists a variable, with what it lists TIED to the program's text (the seventh form; the later family's looks); each row that meets fmt, with fmt's text TOLD by the authors' own Lean function (tested against real Go, not proved from fmt's source: count such statements apart). THE CARD IS WHAT COUNTS. Prove the row's statement (the work); the ties are given (YtgblfbajgpboiaaGreatDoorTie.lean); close each card by the builder's one call (the guide's Derived/Test/ToyasCard.lean, 'card_holds'). Laid BY PROGRAM, IN A SANDBOX (cutbox-door.mjs). By AI agents, Wed Nov 11 2026. No macro, syntax, notation, axiom, sorry.
-/
import Derived.Test.YtgblfbajgpboiaaGreatDoorRows
import GoSem.ClaimSeven
namespace Go.Proofs.YtgblfbajgpboiaaGreatDoor
namespace Rows

/-- THE TIED CARD OF 'oghamlaw15.DerLeaves'. -/
def derLeavesCard : Claim7 := { stood := { row := derLeavesRow, standIns := [], harness := (true, "9722525164fac60bf4a4f8816b4a28e8a556690597cc0797c6e2a7a8ba7ae590"), looks := false }, kinds := [], alts := [], laidByText := true, laidKinds := [.data, .pinned], laidTests := true, laidLooks := .later }
def DerLeavesCardSaid : Prop := Claim7.holds Tryz.pinned (.plain (OpenSpec.ofChange derLeavesSpec)) derLeavesCard

/-- THE TIED CARD OF 'oghamlaw15.DerSets'. -/
def derSetsCard : Claim7 := { stood := { row := derSetsRow, standIns := [], harness := (true, "9722525164fac60bf4a4f8816b4a28e8a556690597cc0797c6e2a7a8ba7ae590"), looks := false }, kinds := [], alts := [], laidByText := true, laidKinds := [.data, .pinned], laidTests := true, laidLooks := .later }
def DerSetsCardSaid : Prop := Claim7.holds Tryz.pinned (.plain (OpenSpec.ofChange derSetsSpec)) derSetsCard

/-- THE SECOND FORM's CARD OF 'oghamlaw15.DerLeaves'. -/
def derLeavesUptoCard : Claim7 := { stood := { row := derLeavesUptoRow, standIns := [], harness := (true, "9722525164fac60bf4a4f8816b4a28e8a556690597cc0797c6e2a7a8ba7ae590"), looks := false }, kinds := [], alts := [], laidByText := true, laidKinds := [.data, .pinned], laidTests := true, laidLooks := .later }
def DerLeavesUptoCardSaid : Prop := Claim7.holds Tryz.pinned (.plain (OpenSpec.upto derLeavesSpec)) derLeavesUptoCard

/-- THE SECOND FORM's CARD OF 'oghamlaw15.DerSets'. -/
def derSetsUptoCard : Claim7 := { stood := { row := derSetsUptoRow, standIns := [], harness := (true, "9722525164fac60bf4a4f8816b4a28e8a556690597cc0797c6e2a7a8ba7ae590"), looks := false }, kinds := [], alts := [], laidByText := true, laidKinds := [.data, .pinned], laidTests := true, laidLooks := .later }
def DerSetsUptoCardSaid : Prop := Claim7.holds Tryz.pinned (.plain (OpenSpec.upto derSetsSpec)) derSetsUptoCard
end Rows
end Go.Proofs.YtgblfbajgpboiaaGreatDoor
