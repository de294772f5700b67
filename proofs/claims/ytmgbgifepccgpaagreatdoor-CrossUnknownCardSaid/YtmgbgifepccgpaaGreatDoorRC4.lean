/- The answers at some of the arguments. Printed by a program. No condition. -/
import Derived.Test.YtmgbgifepccgpaaGreatDoorRU
set_option maxRecDepth 100000
set_option maxHeartbeats 0
set_option linter.all false
namespace Go.Proofs.YtmgbgifepccgpaaGreatDoor.crossUnknown
open Go Go.Og
noncomputable section
theorem r_40_0_0 : okB (run (Int.ofNat 42) (Int.ofNat 1) (Int.ofNat 1)) = true := by kernel_rfl
theorem r_40_0_1 : okB (run (Int.ofNat 42) (Int.ofNat 1) (Int.ofNat 2)) = true := by kernel_rfl
theorem r_40_1_0 : okB (run (Int.ofNat 42) (Int.ofNat 2) (Int.ofNat 1)) = true := by kernel_rfl
theorem r_40_1_1 : okB (run (Int.ofNat 42) (Int.ofNat 2) (Int.ofNat 2)) = true := by kernel_rfl
theorem r_41_0_0 : okB (run (Int.ofNat 43) (Int.ofNat 1) (Int.ofNat 1)) = true := by kernel_rfl
theorem r_41_0_1 : okB (run (Int.ofNat 43) (Int.ofNat 1) (Int.ofNat 2)) = true := by kernel_rfl
theorem r_41_1_0 : okB (run (Int.ofNat 43) (Int.ofNat 2) (Int.ofNat 1)) = true := by kernel_rfl
theorem r_41_1_1 : okB (run (Int.ofNat 43) (Int.ofNat 2) (Int.ofNat 2)) = true := by kernel_rfl
theorem r_42_0_0 : okB (run (Int.ofNat 44) (Int.ofNat 1) (Int.ofNat 1)) = true := by kernel_rfl
theorem r_42_0_1 : okB (run (Int.ofNat 44) (Int.ofNat 1) (Int.ofNat 2)) = true := by kernel_rfl
theorem r_42_1_0 : okB (run (Int.ofNat 44) (Int.ofNat 2) (Int.ofNat 1)) = true := by kernel_rfl
theorem r_42_1_1 : okB (run (Int.ofNat 44) (Int.ofNat 2) (Int.ofNat 2)) = true := by kernel_rfl
theorem r_43_0_0 : okB (run (Int.ofNat 45) (Int.ofNat 1) (Int.ofNat 1)) = true := by kernel_rfl
theorem r_43_0_1 : okB (run (Int.ofNat 45) (Int.ofNat 1) (Int.ofNat 2)) = true := by kernel_rfl
theorem r_43_1_0 : okB (run (Int.ofNat 45) (Int.ofNat 2) (Int.ofNat 1)) = true := by kernel_rfl
theorem r_43_1_1 : okB (run (Int.ofNat 45) (Int.ofNat 2) (Int.ofNat 2)) = true := by kernel_rfl
theorem r_44_0_0 : okB (run (Int.ofNat 46) (Int.ofNat 1) (Int.ofNat 1)) = true := by kernel_rfl
theorem r_44_0_1 : okB (run (Int.ofNat 46) (Int.ofNat 1) (Int.ofNat 2)) = true := by kernel_rfl
theorem r_44_1_0 : okB (run (Int.ofNat 46) (Int.ofNat 2) (Int.ofNat 1)) = true := by kernel_rfl
theorem r_44_1_1 : okB (run (Int.ofNat 46) (Int.ofNat 2) (Int.ofNat 2)) = true := by kernel_rfl
theorem r_45_0_0 : okB (run (Int.ofNat 47) (Int.ofNat 1) (Int.ofNat 1)) = true := by kernel_rfl
theorem r_45_0_1 : okB (run (Int.ofNat 47) (Int.ofNat 1) (Int.ofNat 2)) = true := by kernel_rfl
theorem r_45_1_0 : okB (run (Int.ofNat 47) (Int.ofNat 2) (Int.ofNat 1)) = true := by kernel_rfl
theorem r_45_1_1 : okB (run (Int.ofNat 47) (Int.ofNat 2) (Int.ofNat 2)) = true := by kernel_rfl
theorem r_46_0_0 : okB (run (Int.ofNat 48) (Int.ofNat 1) (Int.ofNat 1)) = true := by kernel_rfl
theorem r_46_0_1 : okB (run (Int.ofNat 48) (Int.ofNat 1) (Int.ofNat 2)) = true := by kernel_rfl
theorem r_46_1_0 : okB (run (Int.ofNat 48) (Int.ofNat 2) (Int.ofNat 1)) = true := by kernel_rfl
theorem r_46_1_1 : okB (run (Int.ofNat 48) (Int.ofNat 2) (Int.ofNat 2)) = true := by kernel_rfl
theorem r_47_0_0 : okB (run (Int.ofNat 49) (Int.ofNat 1) (Int.ofNat 1)) = true := by kernel_rfl
theorem r_47_0_1 : okB (run (Int.ofNat 49) (Int.ofNat 1) (Int.ofNat 2)) = true := by kernel_rfl
theorem r_47_1_0 : okB (run (Int.ofNat 49) (Int.ofNat 2) (Int.ofNat 1)) = true := by kernel_rfl
theorem r_47_1_1 : okB (run (Int.ofNat 49) (Int.ofNat 2) (Int.ofNat 2)) = true := by kernel_rfl
theorem r_48_0_0 : okB (run (Int.ofNat 50) (Int.ofNat 1) (Int.ofNat 1)) = true := by kernel_rfl
theorem r_48_0_1 : okB (run (Int.ofNat 50) (Int.ofNat 1) (Int.ofNat 2)) = true := by kernel_rfl
theorem r_48_1_0 : okB (run (Int.ofNat 50) (Int.ofNat 2) (Int.ofNat 1)) = true := by kernel_rfl
theorem r_48_1_1 : okB (run (Int.ofNat 50) (Int.ofNat 2) (Int.ofNat 2)) = true := by kernel_rfl
theorem r_49_0_0 : okB (run (Int.ofNat 51) (Int.ofNat 1) (Int.ofNat 1)) = true := by kernel_rfl
theorem r_49_0_1 : okB (run (Int.ofNat 51) (Int.ofNat 1) (Int.ofNat 2)) = true := by kernel_rfl
theorem r_49_1_0 : okB (run (Int.ofNat 51) (Int.ofNat 2) (Int.ofNat 1)) = true := by kernel_rfl
theorem r_49_1_1 : okB (run (Int.ofNat 51) (Int.ofNat 2) (Int.ofNat 2)) = true := by kernel_rfl
end
end Go.Proofs.YtmgbgifepccgpaaGreatDoor.crossUnknown
