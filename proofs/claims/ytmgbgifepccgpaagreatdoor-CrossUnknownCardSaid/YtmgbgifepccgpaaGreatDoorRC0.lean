/- The answers at some of the arguments. Printed by a program. No condition. -/
import Derived.Test.YtmgbgifepccgpaaGreatDoorRU
set_option maxRecDepth 100000
set_option maxHeartbeats 0
set_option linter.all false
namespace Go.Proofs.YtmgbgifepccgpaaGreatDoor.crossUnknown
open Go Go.Og
noncomputable section
theorem r_0_0_0 : okB (run (Int.ofNat 2) (Int.ofNat 1) (Int.ofNat 1)) = true := by kernel_rfl
theorem r_0_0_1 : okB (run (Int.ofNat 2) (Int.ofNat 1) (Int.ofNat 2)) = true := by kernel_rfl
theorem r_0_1_0 : okB (run (Int.ofNat 2) (Int.ofNat 2) (Int.ofNat 1)) = true := by kernel_rfl
theorem r_0_1_1 : okB (run (Int.ofNat 2) (Int.ofNat 2) (Int.ofNat 2)) = true := by kernel_rfl
theorem r_1_0_0 : okB (run (Int.ofNat 3) (Int.ofNat 1) (Int.ofNat 1)) = true := by kernel_rfl
theorem r_1_0_1 : okB (run (Int.ofNat 3) (Int.ofNat 1) (Int.ofNat 2)) = true := by kernel_rfl
theorem r_1_1_0 : okB (run (Int.ofNat 3) (Int.ofNat 2) (Int.ofNat 1)) = true := by kernel_rfl
theorem r_1_1_1 : okB (run (Int.ofNat 3) (Int.ofNat 2) (Int.ofNat 2)) = true := by kernel_rfl
theorem r_2_0_0 : okB (run (Int.ofNat 4) (Int.ofNat 1) (Int.ofNat 1)) = true := by kernel_rfl
theorem r_2_0_1 : okB (run (Int.ofNat 4) (Int.ofNat 1) (Int.ofNat 2)) = true := by kernel_rfl
theorem r_2_1_0 : okB (run (Int.ofNat 4) (Int.ofNat 2) (Int.ofNat 1)) = true := by kernel_rfl
theorem r_2_1_1 : okB (run (Int.ofNat 4) (Int.ofNat 2) (Int.ofNat 2)) = true := by kernel_rfl
theorem r_3_0_0 : okB (run (Int.ofNat 5) (Int.ofNat 1) (Int.ofNat 1)) = true := by kernel_rfl
theorem r_3_0_1 : okB (run (Int.ofNat 5) (Int.ofNat 1) (Int.ofNat 2)) = true := by kernel_rfl
theorem r_3_1_0 : okB (run (Int.ofNat 5) (Int.ofNat 2) (Int.ofNat 1)) = true := by kernel_rfl
theorem r_3_1_1 : okB (run (Int.ofNat 5) (Int.ofNat 2) (Int.ofNat 2)) = true := by kernel_rfl
theorem r_4_0_0 : okB (run (Int.ofNat 6) (Int.ofNat 1) (Int.ofNat 1)) = true := by kernel_rfl
theorem r_4_0_1 : okB (run (Int.ofNat 6) (Int.ofNat 1) (Int.ofNat 2)) = true := by kernel_rfl
theorem r_4_1_0 : okB (run (Int.ofNat 6) (Int.ofNat 2) (Int.ofNat 1)) = true := by kernel_rfl
theorem r_4_1_1 : okB (run (Int.ofNat 6) (Int.ofNat 2) (Int.ofNat 2)) = true := by kernel_rfl
theorem r_5_0_0 : okB (run (Int.ofNat 7) (Int.ofNat 1) (Int.ofNat 1)) = true := by kernel_rfl
theorem r_5_0_1 : okB (run (Int.ofNat 7) (Int.ofNat 1) (Int.ofNat 2)) = true := by kernel_rfl
theorem r_5_1_0 : okB (run (Int.ofNat 7) (Int.ofNat 2) (Int.ofNat 1)) = true := by kernel_rfl
theorem r_5_1_1 : okB (run (Int.ofNat 7) (Int.ofNat 2) (Int.ofNat 2)) = true := by kernel_rfl
theorem r_6_0_0 : okB (run (Int.ofNat 8) (Int.ofNat 1) (Int.ofNat 1)) = true := by kernel_rfl
theorem r_6_0_1 : okB (run (Int.ofNat 8) (Int.ofNat 1) (Int.ofNat 2)) = true := by kernel_rfl
theorem r_6_1_0 : okB (run (Int.ofNat 8) (Int.ofNat 2) (Int.ofNat 1)) = true := by kernel_rfl
theorem r_6_1_1 : okB (run (Int.ofNat 8) (Int.ofNat 2) (Int.ofNat 2)) = true := by kernel_rfl
theorem r_7_0_0 : okB (run (Int.ofNat 9) (Int.ofNat 1) (Int.ofNat 1)) = true := by kernel_rfl
theorem r_7_0_1 : okB (run (Int.ofNat 9) (Int.ofNat 1) (Int.ofNat 2)) = true := by kernel_rfl
theorem r_7_1_0 : okB (run (Int.ofNat 9) (Int.ofNat 2) (Int.ofNat 1)) = true := by kernel_rfl
theorem r_7_1_1 : okB (run (Int.ofNat 9) (Int.ofNat 2) (Int.ofNat 2)) = true := by kernel_rfl
theorem r_8_0_0 : okB (run (Int.ofNat 10) (Int.ofNat 1) (Int.ofNat 1)) = true := by kernel_rfl
theorem r_8_0_1 : okB (run (Int.ofNat 10) (Int.ofNat 1) (Int.ofNat 2)) = true := by kernel_rfl
theorem r_8_1_0 : okB (run (Int.ofNat 10) (Int.ofNat 2) (Int.ofNat 1)) = true := by kernel_rfl
theorem r_8_1_1 : okB (run (Int.ofNat 10) (Int.ofNat 2) (Int.ofNat 2)) = true := by kernel_rfl
theorem r_9_0_0 : okB (run (Int.ofNat 11) (Int.ofNat 1) (Int.ofNat 1)) = true := by kernel_rfl
theorem r_9_0_1 : okB (run (Int.ofNat 11) (Int.ofNat 1) (Int.ofNat 2)) = true := by kernel_rfl
theorem r_9_1_0 : okB (run (Int.ofNat 11) (Int.ofNat 2) (Int.ofNat 1)) = true := by kernel_rfl
theorem r_9_1_1 : okB (run (Int.ofNat 11) (Int.ofNat 2) (Int.ofNat 2)) = true := by kernel_rfl
end
end Go.Proofs.YtmgbgifepccgpaaGreatDoor.crossUnknown
