/- The answers at some of the arguments. Printed by a program. No condition. -/
import Derived.Test.YtmgbgifepccgpaaGreatDoorRU
set_option maxRecDepth 100000
set_option maxHeartbeats 0
set_option linter.all false
namespace Go.Proofs.YtmgbgifepccgpaaGreatDoor.crossUnknown
open Go Go.Og
noncomputable section
theorem r_20_0_0 : okB (run (Int.ofNat 22) (Int.ofNat 1) (Int.ofNat 1)) = true := by kernel_rfl
theorem r_20_0_1 : okB (run (Int.ofNat 22) (Int.ofNat 1) (Int.ofNat 2)) = true := by kernel_rfl
theorem r_20_1_0 : okB (run (Int.ofNat 22) (Int.ofNat 2) (Int.ofNat 1)) = true := by kernel_rfl
theorem r_20_1_1 : okB (run (Int.ofNat 22) (Int.ofNat 2) (Int.ofNat 2)) = true := by kernel_rfl
theorem r_21_0_0 : okB (run (Int.ofNat 23) (Int.ofNat 1) (Int.ofNat 1)) = true := by kernel_rfl
theorem r_21_0_1 : okB (run (Int.ofNat 23) (Int.ofNat 1) (Int.ofNat 2)) = true := by kernel_rfl
theorem r_21_1_0 : okB (run (Int.ofNat 23) (Int.ofNat 2) (Int.ofNat 1)) = true := by kernel_rfl
theorem r_21_1_1 : okB (run (Int.ofNat 23) (Int.ofNat 2) (Int.ofNat 2)) = true := by kernel_rfl
theorem r_22_0_0 : okB (run (Int.ofNat 24) (Int.ofNat 1) (Int.ofNat 1)) = true := by kernel_rfl
theorem r_22_0_1 : okB (run (Int.ofNat 24) (Int.ofNat 1) (Int.ofNat 2)) = true := by kernel_rfl
theorem r_22_1_0 : okB (run (Int.ofNat 24) (Int.ofNat 2) (Int.ofNat 1)) = true := by kernel_rfl
theorem r_22_1_1 : okB (run (Int.ofNat 24) (Int.ofNat 2) (Int.ofNat 2)) = true := by kernel_rfl
theorem r_23_0_0 : okB (run (Int.ofNat 25) (Int.ofNat 1) (Int.ofNat 1)) = true := by kernel_rfl
theorem r_23_0_1 : okB (run (Int.ofNat 25) (Int.ofNat 1) (Int.ofNat 2)) = true := by kernel_rfl
theorem r_23_1_0 : okB (run (Int.ofNat 25) (Int.ofNat 2) (Int.ofNat 1)) = true := by kernel_rfl
theorem r_23_1_1 : okB (run (Int.ofNat 25) (Int.ofNat 2) (Int.ofNat 2)) = true := by kernel_rfl
theorem r_24_0_0 : okB (run (Int.ofNat 26) (Int.ofNat 1) (Int.ofNat 1)) = true := by kernel_rfl
theorem r_24_0_1 : okB (run (Int.ofNat 26) (Int.ofNat 1) (Int.ofNat 2)) = true := by kernel_rfl
theorem r_24_1_0 : okB (run (Int.ofNat 26) (Int.ofNat 2) (Int.ofNat 1)) = true := by kernel_rfl
theorem r_24_1_1 : okB (run (Int.ofNat 26) (Int.ofNat 2) (Int.ofNat 2)) = true := by kernel_rfl
theorem r_25_0_0 : okB (run (Int.ofNat 27) (Int.ofNat 1) (Int.ofNat 1)) = true := by kernel_rfl
theorem r_25_0_1 : okB (run (Int.ofNat 27) (Int.ofNat 1) (Int.ofNat 2)) = true := by kernel_rfl
theorem r_25_1_0 : okB (run (Int.ofNat 27) (Int.ofNat 2) (Int.ofNat 1)) = true := by kernel_rfl
theorem r_25_1_1 : okB (run (Int.ofNat 27) (Int.ofNat 2) (Int.ofNat 2)) = true := by kernel_rfl
theorem r_26_0_0 : okB (run (Int.ofNat 28) (Int.ofNat 1) (Int.ofNat 1)) = true := by kernel_rfl
theorem r_26_0_1 : okB (run (Int.ofNat 28) (Int.ofNat 1) (Int.ofNat 2)) = true := by kernel_rfl
theorem r_26_1_0 : okB (run (Int.ofNat 28) (Int.ofNat 2) (Int.ofNat 1)) = true := by kernel_rfl
theorem r_26_1_1 : okB (run (Int.ofNat 28) (Int.ofNat 2) (Int.ofNat 2)) = true := by kernel_rfl
theorem r_27_0_0 : okB (run (Int.ofNat 29) (Int.ofNat 1) (Int.ofNat 1)) = true := by kernel_rfl
theorem r_27_0_1 : okB (run (Int.ofNat 29) (Int.ofNat 1) (Int.ofNat 2)) = true := by kernel_rfl
theorem r_27_1_0 : okB (run (Int.ofNat 29) (Int.ofNat 2) (Int.ofNat 1)) = true := by kernel_rfl
theorem r_27_1_1 : okB (run (Int.ofNat 29) (Int.ofNat 2) (Int.ofNat 2)) = true := by kernel_rfl
theorem r_28_0_0 : okB (run (Int.ofNat 30) (Int.ofNat 1) (Int.ofNat 1)) = true := by kernel_rfl
theorem r_28_0_1 : okB (run (Int.ofNat 30) (Int.ofNat 1) (Int.ofNat 2)) = true := by kernel_rfl
theorem r_28_1_0 : okB (run (Int.ofNat 30) (Int.ofNat 2) (Int.ofNat 1)) = true := by kernel_rfl
theorem r_28_1_1 : okB (run (Int.ofNat 30) (Int.ofNat 2) (Int.ofNat 2)) = true := by kernel_rfl
theorem r_29_0_0 : okB (run (Int.ofNat 31) (Int.ofNat 1) (Int.ofNat 1)) = true := by kernel_rfl
theorem r_29_0_1 : okB (run (Int.ofNat 31) (Int.ofNat 1) (Int.ofNat 2)) = true := by kernel_rfl
theorem r_29_1_0 : okB (run (Int.ofNat 31) (Int.ofNat 2) (Int.ofNat 1)) = true := by kernel_rfl
theorem r_29_1_1 : okB (run (Int.ofNat 31) (Int.ofNat 2) (Int.ofNat 2)) = true := by kernel_rfl
end
end Go.Proofs.YtmgbgifepccgpaaGreatDoor.crossUnknown
