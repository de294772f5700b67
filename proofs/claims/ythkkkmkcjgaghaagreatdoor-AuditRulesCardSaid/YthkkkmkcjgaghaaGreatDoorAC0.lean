/- AuditRules: the answers with 2 versions. Printed by a program. No condition. -/
import Derived.Test.YthkkkmkcjgaghaaGreatDoorAU
set_option maxRecDepth 100000
set_option maxHeartbeats 0
set_option linter.all false
namespace Go.Proofs.YthkkkmkcjgaghaaGreatDoor.auditRules
open Go Go.Og
noncomputable section
theorem r_0_0 : okB (run (Int.ofNat 2) (Int.ofNat 0)) = true := by kernel_rfl
theorem r_0_1 : okB (run (Int.ofNat 2) (Int.ofNat 1)) = true := by kernel_rfl
theorem r_0_2 : okB (run (Int.ofNat 2) (Int.ofNat 2)) = true := by kernel_rfl
theorem r_0_3 : okB (run (Int.ofNat 2) (Int.ofNat 3)) = true := by kernel_rfl
theorem r_0_4 : okB (run (Int.ofNat 2) (Int.ofNat 4)) = true := by kernel_rfl
theorem r_0_5 : okB (run (Int.ofNat 2) (Int.ofNat 5)) = true := by kernel_rfl
end
end Go.Proofs.YthkkkmkcjgaghaaGreatDoor.auditRules
