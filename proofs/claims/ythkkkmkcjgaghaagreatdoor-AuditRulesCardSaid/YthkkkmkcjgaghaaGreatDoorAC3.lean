/- AuditRules: the answers with 5 versions. Printed by a program. No condition. -/
import Derived.Test.YthkkkmkcjgaghaaGreatDoorAU
set_option maxRecDepth 100000
set_option maxHeartbeats 0
set_option linter.all false
namespace Go.Proofs.YthkkkmkcjgaghaaGreatDoor.auditRules
open Go Go.Og
noncomputable section
theorem r_3_0 : okB (run (Int.ofNat 5) (Int.ofNat 0)) = true := by kernel_rfl
theorem r_3_1 : okB (run (Int.ofNat 5) (Int.ofNat 1)) = true := by kernel_rfl
theorem r_3_2 : okB (run (Int.ofNat 5) (Int.ofNat 2)) = true := by kernel_rfl
theorem r_3_3 : okB (run (Int.ofNat 5) (Int.ofNat 3)) = true := by kernel_rfl
theorem r_3_4 : okB (run (Int.ofNat 5) (Int.ofNat 4)) = true := by kernel_rfl
theorem r_3_5 : okB (run (Int.ofNat 5) (Int.ofNat 5)) = true := by kernel_rfl
end
end Go.Proofs.YthkkkmkcjgaghaaGreatDoor.auditRules
