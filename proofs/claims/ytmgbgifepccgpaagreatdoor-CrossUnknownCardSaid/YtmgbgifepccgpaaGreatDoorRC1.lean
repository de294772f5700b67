/- The answers at some of the arguments. Printed by a program. No condition. -/
import Derived.Test.YtmgbgifepccgpaaGreatDoorRU
set_option maxRecDepth 100000
set_option maxHeartbeats 0
set_option linter.all false
namespace Go.Proofs.YtmgbgifepccgpaaGreatDoor.crossUnknown
open Go Go.Og
noncomputable section
theorem r_10_0_0 : okB (run (Int.ofNat 12) (Int.ofNat 1) (Int.ofNat 1)) = true := by kernel_rfl
theorem r_10_0_1 : okB (run (Int.ofNat 12) (Int.ofNat 1) (Int.ofNat 2)) = true := by kernel_rfl
theorem r_10_1_0 : okB (run (Int.ofNat 12) (Int.ofNat 2) (Int.ofNat 1)) = true := by kernel_rfl
theorem r_10_1_1 : okB (run (Int.ofNat 12) (Int.ofNat 2) (Int.ofNat 2)) = true := by kernel_rfl
theorem r_11_0_0 : okB (run (Int.ofNat 13) (Int.ofNat 1) (Int.ofNat 1)) = true := by kernel_rfl
theorem r_11_0_1 : okB (run (Int.ofNat 13) (Int.ofNat 1) (Int.ofNat 2)) = true := by kernel_rfl
theorem r_11_1_0 : okB (run (Int.ofNat 13) (Int.ofNat 2) (Int.ofNat 1)) = true := by kernel_rfl
theorem r_11_1_1 : okB (run (Int.ofNat 13) (Int.ofNat 2) (Int.ofNat 2)) = true := by kernel_rfl
theorem r_12_0_0 : okB (run (Int.ofNat 14) (Int.ofNat 1) (Int.ofNat 1)) = true := by kernel_rfl
theorem r_12_0_1 : okB (run (Int.ofNat 14) (Int.ofNat 1) (Int.ofNat 2)) = true := by kernel_rfl
theorem r_12_1_0 : okB (run (Int.ofNat 14) (Int.ofNat 2) (Int.ofNat 1)) = true := by kernel_rfl
theorem r_12_1_1 : okB (run (Int.ofNat 14) (Int.ofNat 2) (Int.ofNat 2)) = true := by kernel_rfl
theorem r_13_0_0 : okB (run (Int.ofNat 15) (Int.ofNat 1) (Int.ofNat 1)) = true := by kernel_rfl
theorem r_13_0_1 : okB (run (Int.ofNat 15) (Int.ofNat 1) (Int.ofNat 2)) = true := by kernel_rfl
theorem r_13_1_0 : okB (run (Int.ofNat 15) (Int.ofNat 2) (Int.ofNat 1)) = true := by kernel_rfl
theorem r_13_1_1 : okB (run (Int.ofNat 15) (Int.ofNat 2) (Int.ofNat 2)) = true := by kernel_rfl
theorem r_14_0_0 : okB (run (Int.ofNat 16) (Int.ofNat 1) (Int.ofNat 1)) = true := by kernel_rfl
theorem r_14_0_1 : okB (run (Int.ofNat 16) (Int.ofNat 1) (Int.ofNat 2)) = true := by kernel_rfl
theorem r_14_1_0 : okB (run (Int.ofNat 16) (Int.ofNat 2) (Int.ofNat 1)) = true := by kernel_rfl
theorem r_14_1_1 : okB (run (Int.ofNat 16) (Int.ofNat 2) (Int.ofNat 2)) = true := by kernel_rfl
theorem r_15_0_0 : okB (run (Int.ofNat 17) (Int.ofNat 1) (Int.ofNat 1)) = true := by kernel_rfl
theorem r_15_0_1 : okB (run (Int.ofNat 17) (Int.ofNat 1) (Int.ofNat 2)) = true := by kernel_rfl
theorem r_15_1_0 : okB (run (Int.ofNat 17) (Int.ofNat 2) (Int.ofNat 1)) = true := by kernel_rfl
theorem r_15_1_1 : okB (run (Int.ofNat 17) (Int.ofNat 2) (Int.ofNat 2)) = true := by kernel_rfl
theorem r_16_0_0 : okB (run (Int.ofNat 18) (Int.ofNat 1) (Int.ofNat 1)) = true := by kernel_rfl
theorem r_16_0_1 : okB (run (Int.ofNat 18) (Int.ofNat 1) (Int.ofNat 2)) = true := by kernel_rfl
theorem r_16_1_0 : okB (run (Int.ofNat 18) (Int.ofNat 2) (Int.ofNat 1)) = true := by kernel_rfl
theorem r_16_1_1 : okB (run (Int.ofNat 18) (Int.ofNat 2) (Int.ofNat 2)) = true := by kernel_rfl
theorem r_17_0_0 : okB (run (Int.ofNat 19) (Int.ofNat 1) (Int.ofNat 1)) = true := by kernel_rfl
theorem r_17_0_1 : okB (run (Int.ofNat 19) (Int.ofNat 1) (Int.ofNat 2)) = true := by kernel_rfl
theorem r_17_1_0 : okB (run (Int.ofNat 19) (Int.ofNat 2) (Int.ofNat 1)) = true := by kernel_rfl
theorem r_17_1_1 : okB (run (Int.ofNat 19) (Int.ofNat 2) (Int.ofNat 2)) = true := by kernel_rfl
theorem r_18_0_0 : okB (run (Int.ofNat 20) (Int.ofNat 1) (Int.ofNat 1)) = true := by kernel_rfl
theorem r_18_0_1 : okB (run (Int.ofNat 20) (Int.ofNat 1) (Int.ofNat 2)) = true := by kernel_rfl
theorem r_18_1_0 : okB (run (Int.ofNat 20) (Int.ofNat 2) (Int.ofNat 1)) = true := by kernel_rfl
theorem r_18_1_1 : okB (run (Int.ofNat 20) (Int.ofNat 2) (Int.ofNat 2)) = true := by kernel_rfl
theorem r_19_0_0 : okB (run (Int.ofNat 21) (Int.ofNat 1) (Int.ofNat 1)) = true := by kernel_rfl
theorem r_19_0_1 : okB (run (Int.ofNat 21) (Int.ofNat 1) (Int.ofNat 2)) = true := by kernel_rfl
theorem r_19_1_0 : okB (run (Int.ofNat 21) (Int.ofNat 2) (Int.ofNat 1)) = true := by kernel_rfl
theorem r_19_1_1 : okB (run (Int.ofNat 21) (Int.ofNat 2) (Int.ofNat 2)) = true := by kernel_rfl
end
end Go.Proofs.YtmgbgifepccgpaaGreatDoor.crossUnknown
