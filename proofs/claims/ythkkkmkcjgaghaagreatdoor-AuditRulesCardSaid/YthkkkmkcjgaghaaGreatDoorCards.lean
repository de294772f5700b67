/-
  DERIVED. GIVEN WITH THE SEED: THE CARDS: each row of YthkkkmkcjgaghaaGreatDoorRows.lean that lists a variable, with what it lists TIED to the program's text (the seventh form; the later family's looks); each row that meets fmt, with fmt's text TOLD by the authors' own Lean function (tested against real Go, not proved from fmt's source: count such statements apart). THE CARD IS WHAT COUNTS. Prove the row's statement (the work); the ties are given (YthkkkmkcjgaghaaGreatDoorTie.lean); close each card by the builder's one call (the guide's Derived/Test/ToyasCard.lean, 'card_holds'). Laid BY PROGRAM, IN A SANDBOX (cutbox-door.mjs). By AI agents, Wed Nov 11 2026. No macro, syntax, notation, axiom, sorry.
-/
import Derived.Test.YthkkkmkcjgaghaaGreatDoorRows
import GoSem.ClaimSeven
namespace Go.Proofs.YthkkkmkcjgaghaaGreatDoor
namespace Rows

/-- THE TIED CARD OF 'oghamlaw25.AuditRules'. -/
def auditRulesCard : Claim7 := { stood := { row := auditRulesRow, standIns := [], harness := (true, "f439cc99197d6a1c18d571187a1a5d7f7ad00338d35535224904bbfef1d1868a"), looks := true }, kinds := [], alts := [], laidByText := true, laidKinds := [.data, .data, .data, .data, .sentinel, .sentinel, .pinned], laidTests := true, laidLooks := .later }
def AuditRulesCardSaid : Prop := Claim7.holds Tryz.pinned (.plain (OpenSpec.ofChange auditRulesSpec)) auditRulesCard

/-- THE TIED CARD OF 'oghamlaw23.StoreFull'. -/
def storeFullCard : Claim7 := { stood := { row := storeFullRow, standIns := [], harness := (true, "f439cc99197d6a1c18d571187a1a5d7f7ad00338d35535224904bbfef1d1868a"), looks := true }, kinds := [], alts := [], laidByText := true, laidKinds := [.data, .data, .data, .data, .sentinel, .sentinel, .pinned], laidTests := true, laidLooks := .later }
def StoreFullCardSaid : Prop := Claim7.holds Tryz.pinned (.plain (OpenSpec.ofChange storeFullSpec)) storeFullCard

/-- THE TIED CARD OF 'oghamlaw23.StoreNil'. -/
def storeNilCard : Claim7 := { stood := { row := storeNilRow, standIns := [], harness := (true, "f439cc99197d6a1c18d571187a1a5d7f7ad00338d35535224904bbfef1d1868a"), looks := true }, kinds := [], alts := [], laidByText := true, laidKinds := [.data, .data, .data, .data, .sentinel, .sentinel, .pinned], laidTests := true, laidLooks := .later }
def StoreNilCardSaid : Prop := Claim7.holds Tryz.pinned (.plain (OpenSpec.ofChange storeNilSpec)) storeNilCard

/-- THE SECOND FORM's CARD OF 'oghamlaw25.AuditRules'. -/
def auditRulesUptoCard : Claim7 := { stood := { row := auditRulesUptoRow, standIns := [], harness := (true, "f439cc99197d6a1c18d571187a1a5d7f7ad00338d35535224904bbfef1d1868a"), looks := true }, kinds := [], alts := [], laidByText := true, laidKinds := [.data, .data, .data, .data, .sentinel, .sentinel, .pinned], laidTests := true, laidLooks := .later }
def AuditRulesUptoCardSaid : Prop := Claim7.holds Tryz.pinned (.plain (OpenSpec.upto auditRulesSpec)) auditRulesUptoCard

/-- THE SECOND FORM's CARD OF 'oghamlaw23.StoreFull'. -/
def storeFullUptoCard : Claim7 := { stood := { row := storeFullUptoRow, standIns := [], harness := (true, "f439cc99197d6a1c18d571187a1a5d7f7ad00338d35535224904bbfef1d1868a"), looks := true }, kinds := [], alts := [], laidByText := true, laidKinds := [.data, .data, .data, .data, .sentinel, .sentinel, .pinned], laidTests := true, laidLooks := .later }
def StoreFullUptoCardSaid : Prop := Claim7.holds Tryz.pinned (.plain (OpenSpec.upto storeFullSpec)) storeFullUptoCard

/-- THE SECOND FORM's CARD OF 'oghamlaw23.StoreNil'. -/
def storeNilUptoCard : Claim7 := { stood := { row := storeNilUptoRow, standIns := [], harness := (true, "f439cc99197d6a1c18d571187a1a5d7f7ad00338d35535224904bbfef1d1868a"), looks := true }, kinds := [], alts := [], laidByText := true, laidKinds := [.data, .data, .data, .data, .sentinel, .sentinel, .pinned], laidTests := true, laidLooks := .later }
def StoreNilUptoCardSaid : Prop := Claim7.holds Tryz.pinned (.plain (OpenSpec.upto storeNilSpec)) storeNilUptoCard
end Rows
end Go.Proofs.YthkkkmkcjgaghaaGreatDoor
