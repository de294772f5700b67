/- The answers at some of the arguments. Printed by a program. No condition. -/
import Derived.Test.YtmgbgifepccgpaaGreatDoorRU
set_option maxRecDepth 100000
set_option maxHeartbeats 0
set_option linter.all false
namespace Go.Proofs.YtmgbgifepccgpaaGreatDoor.crossUnknown
open Go Go.Og
noncomputable section
theorem r_30_0_0 : okB (run (Int.ofNat 32) (Int.ofNat 1) (Int.ofNat 1)) = true := by kernel_rfl
theorem r_30_0_1 : okB (run (Int.ofNat 32) (Int.ofNat 1) (Int.ofNat 2)) = true := by kernel_rfl
theorem r_30_1_0 : okB (run (Int.ofNat 32) (Int.ofNat 2) (Int.ofNat 1)) = true := by kernel_rfl
theorem r_30_1_1 : okB (run (Int.ofNat 32) (Int.ofNat 2) (Int.ofNat 2)) = true := by kernel_rfl
theorem r_31_0_0 : okB (run (Int.ofNat 33) (Int.ofNat 1) (Int.ofNat 1)) = true := by kernel_rfl
theorem r_31_0_1 : okB (run (Int.ofNat 33) (Int.ofNat 1) (Int.ofNat 2)) = true := by kernel_rfl
theorem r_31_1_0 : okB (run (Int.ofNat 33) (Int.ofNat 2) (Int.ofNat 1)) = true := by kernel_rfl
theorem r_31_1_1 : okB (run (Int.ofNat 33) (Int.ofNat 2) (Int.ofNat 2)) = true := by kernel_rfl
theorem r_32_0_0 : okB (run (Int.ofNat 34) (Int.ofNat 1) (Int.ofNat 1)) = true := by kernel_rfl
theorem r_32_0_1 : okB (run (Int.ofNat 34) (Int.ofNat 1) (Int.ofNat 2)) = true := by kernel_rfl
theorem r_32_1_0 : okB (run (Int.ofNat 34) (Int.ofNat 2) (Int.ofNat 1)) = true := by kernel_rfl
theorem r_32_1_1 : okB (run (Int.ofNat 34) (Int.ofNat 2) (Int.ofNat 2)) = true := by kernel_rfl
theorem r_33_0_0 : okB (run (Int.ofNat 35) (Int.ofNat 1) (Int.ofNat 1)) = true := by kernel_rfl
theorem r_33_0_1 : okB (run (Int.ofNat 35) (Int.ofNat 1) (Int.ofNat 2)) = true := by kernel_rfl
theorem r_33_1_0 : okB (run (Int.ofNat 35) (Int.ofNat 2) (Int.ofNat 1)) = true := by kernel_rfl
theorem r_33_1_1 : okB (run (Int.ofNat 35) (Int.ofNat 2) (Int.ofNat 2)) = true := by kernel_rfl
theorem r_34_0_0 : okB (run (Int.ofNat 36) (Int.ofNat 1) (Int.ofNat 1)) = true := by kernel_rfl
theorem r_34_0_1 : okB (run (Int.ofNat 36) (Int.ofNat 1) (Int.ofNat 2)) = true := by kernel_rfl
theorem r_34_1_0 : okB (run (Int.ofNat 36) (Int.ofNat 2) (Int.ofNat 1)) = true := by kernel_rfl
theorem r_34_1_1 : okB (run (Int.ofNat 36) (Int.ofNat 2) (Int.ofNat 2)) = true := by kernel_rfl
theorem r_35_0_0 : okB (run (Int.ofNat 37) (Int.ofNat 1) (Int.ofNat 1)) = true := by kernel_rfl
theorem r_35_0_1 : okB (run (Int.ofNat 37) (Int.ofNat 1) (Int.ofNat 2)) = true := by kernel_rfl
theorem r_35_1_0 : okB (run (Int.ofNat 37) (Int.ofNat 2) (Int.ofNat 1)) = true := by kernel_rfl
theorem r_35_1_1 : okB (run (Int.ofNat 37) (Int.ofNat 2) (Int.ofNat 2)) = true := by kernel_rfl
theorem r_36_0_0 : okB (run (Int.ofNat 38) (Int.ofNat 1) (Int.ofNat 1)) = true := by kernel_rfl
theorem r_36_0_1 : okB (run (Int.ofNat 38) (Int.ofNat 1) (Int.ofNat 2)) = true := by kernel_rfl
theorem r_36_1_0 : okB (run (Int.ofNat 38) (Int.ofNat 2) (Int.ofNat 1)) = true := by kernel_rfl
theorem r_36_1_1 : okB (run (Int.ofNat 38) (Int.ofNat 2) (Int.ofNat 2)) = true := by kernel_rfl
theorem r_37_0_0 : okB (run (Int.ofNat 39) (Int.ofNat 1) (Int.ofNat 1)) = true := by kernel_rfl
theorem r_37_0_1 : okB (run (Int.ofNat 39) (Int.ofNat 1) (Int.ofNat 2)) = true := by kernel_rfl
theorem r_37_1_0 : okB (run (Int.ofNat 39) (Int.ofNat 2) (Int.ofNat 1)) = true := by kernel_rfl
theorem r_37_1_1 : okB (run (Int.ofNat 39) (Int.ofNat 2) (Int.ofNat 2)) = true := by kernel_rfl
theorem r_38_0_0 : okB (run (Int.ofNat 40) (Int.ofNat 1) (Int.ofNat 1)) = true := by kernel_rfl
theorem r_38_0_1 : okB (run (Int.ofNat 40) (Int.ofNat 1) (Int.ofNat 2)) = true := by kernel_rfl
theorem r_38_1_0 : okB (run (Int.ofNat 40) (Int.ofNat 2) (Int.ofNat 1)) = true := by kernel_rfl
theorem r_38_1_1 : okB (run (Int.ofNat 40) (Int.ofNat 2) (Int.ofNat 2)) = true := by kernel_rfl
theorem r_39_0_0 : okB (run (Int.ofNat 41) (Int.ofNat 1) (Int.ofNat 1)) = true := by kernel_rfl
theorem r_39_0_1 : okB (run (Int.ofNat 41) (Int.ofNat 1) (Int.ofNat 2)) = true := by kernel_rfl
theorem r_39_1_0 : okB (run (Int.ofNat 41) (Int.ofNat 2) (Int.ofNat 1)) = true := by kernel_rfl
theorem r_39_1_1 : okB (run (Int.ofNat 41) (Int.ofNat 2) (Int.ofNat 2)) = true := by kernel_rfl
end
end Go.Proofs.YtmgbgifepccgpaaGreatDoor.crossUnknown
