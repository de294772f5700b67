/- The answers at some of the arguments. Printed by a program. No condition. -/
import Derived.Test.YtmgbgifepccgpaaGreatDoorRU
set_option maxRecDepth 100000
set_option maxHeartbeats 0
set_option linter.all false
namespace Go.Proofs.YtmgbgifepccgpaaGreatDoor.crossUnknown
open Go Go.Og
noncomputable section
theorem r_50_0_0 : okB (run (Int.ofNat 52) (Int.ofNat 1) (Int.ofNat 1)) = true := by kernel_rfl
theorem r_50_0_1 : okB (run (Int.ofNat 52) (Int.ofNat 1) (Int.ofNat 2)) = true := by kernel_rfl
theorem r_50_1_0 : okB (run (Int.ofNat 52) (Int.ofNat 2) (Int.ofNat 1)) = true := by kernel_rfl
theorem r_50_1_1 : okB (run (Int.ofNat 52) (Int.ofNat 2) (Int.ofNat 2)) = true := by kernel_rfl
theorem r_51_0_0 : okB (run (Int.ofNat 53) (Int.ofNat 1) (Int.ofNat 1)) = true := by kernel_rfl
theorem r_51_0_1 : okB (run (Int.ofNat 53) (Int.ofNat 1) (Int.ofNat 2)) = true := by kernel_rfl
theorem r_51_1_0 : okB (run (Int.ofNat 53) (Int.ofNat 2) (Int.ofNat 1)) = true := by kernel_rfl
theorem r_51_1_1 : okB (run (Int.ofNat 53) (Int.ofNat 2) (Int.ofNat 2)) = true := by kernel_rfl
theorem r_52_0_0 : okB (run (Int.ofNat 54) (Int.ofNat 1) (Int.ofNat 1)) = true := by kernel_rfl
theorem r_52_0_1 : okB (run (Int.ofNat 54) (Int.ofNat 1) (Int.ofNat 2)) = true := by kernel_rfl
theorem r_52_1_0 : okB (run (Int.ofNat 54) (Int.ofNat 2) (Int.ofNat 1)) = true := by kernel_rfl
theorem r_52_1_1 : okB (run (Int.ofNat 54) (Int.ofNat 2) (Int.ofNat 2)) = true := by kernel_rfl
theorem r_53_0_0 : okB (run (Int.ofNat 55) (Int.ofNat 1) (Int.ofNat 1)) = true := by kernel_rfl
theorem r_53_0_1 : okB (run (Int.ofNat 55) (Int.ofNat 1) (Int.ofNat 2)) = true := by kernel_rfl
theorem r_53_1_0 : okB (run (Int.ofNat 55) (Int.ofNat 2) (Int.ofNat 1)) = true := by kernel_rfl
theorem r_53_1_1 : okB (run (Int.ofNat 55) (Int.ofNat 2) (Int.ofNat 2)) = true := by kernel_rfl
theorem r_54_0_0 : okB (run (Int.ofNat 56) (Int.ofNat 1) (Int.ofNat 1)) = true := by kernel_rfl
theorem r_54_0_1 : okB (run (Int.ofNat 56) (Int.ofNat 1) (Int.ofNat 2)) = true := by kernel_rfl
theorem r_54_1_0 : okB (run (Int.ofNat 56) (Int.ofNat 2) (Int.ofNat 1)) = true := by kernel_rfl
theorem r_54_1_1 : okB (run (Int.ofNat 56) (Int.ofNat 2) (Int.ofNat 2)) = true := by kernel_rfl
theorem r_55_0_0 : okB (run (Int.ofNat 57) (Int.ofNat 1) (Int.ofNat 1)) = true := by kernel_rfl
theorem r_55_0_1 : okB (run (Int.ofNat 57) (Int.ofNat 1) (Int.ofNat 2)) = true := by kernel_rfl
theorem r_55_1_0 : okB (run (Int.ofNat 57) (Int.ofNat 2) (Int.ofNat 1)) = true := by kernel_rfl
theorem r_55_1_1 : okB (run (Int.ofNat 57) (Int.ofNat 2) (Int.ofNat 2)) = true := by kernel_rfl
theorem r_56_0_0 : okB (run (Int.ofNat 58) (Int.ofNat 1) (Int.ofNat 1)) = true := by kernel_rfl
theorem r_56_0_1 : okB (run (Int.ofNat 58) (Int.ofNat 1) (Int.ofNat 2)) = true := by kernel_rfl
theorem r_56_1_0 : okB (run (Int.ofNat 58) (Int.ofNat 2) (Int.ofNat 1)) = true := by kernel_rfl
theorem r_56_1_1 : okB (run (Int.ofNat 58) (Int.ofNat 2) (Int.ofNat 2)) = true := by kernel_rfl
theorem r_57_0_0 : okB (run (Int.ofNat 59) (Int.ofNat 1) (Int.ofNat 1)) = true := by kernel_rfl
theorem r_57_0_1 : okB (run (Int.ofNat 59) (Int.ofNat 1) (Int.ofNat 2)) = true := by kernel_rfl
theorem r_57_1_0 : okB (run (Int.ofNat 59) (Int.ofNat 2) (Int.ofNat 1)) = true := by kernel_rfl
theorem r_57_1_1 : okB (run (Int.ofNat 59) (Int.ofNat 2) (Int.ofNat 2)) = true := by kernel_rfl
theorem r_58_0_0 : okB (run (Int.ofNat 60) (Int.ofNat 1) (Int.ofNat 1)) = true := by kernel_rfl
theorem r_58_0_1 : okB (run (Int.ofNat 60) (Int.ofNat 1) (Int.ofNat 2)) = true := by kernel_rfl
theorem r_58_1_0 : okB (run (Int.ofNat 60) (Int.ofNat 2) (Int.ofNat 1)) = true := by kernel_rfl
theorem r_58_1_1 : okB (run (Int.ofNat 60) (Int.ofNat 2) (Int.ofNat 2)) = true := by kernel_rfl
theorem r_59_0_0 : okB (run (Int.ofNat 61) (Int.ofNat 1) (Int.ofNat 1)) = true := by kernel_rfl
theorem r_59_0_1 : okB (run (Int.ofNat 61) (Int.ofNat 1) (Int.ofNat 2)) = true := by kernel_rfl
theorem r_59_1_0 : okB (run (Int.ofNat 61) (Int.ofNat 2) (Int.ofNat 1)) = true := by kernel_rfl
theorem r_59_1_1 : okB (run (Int.ofNat 61) (Int.ofNat 2) (Int.ofNat 2)) = true := by kernel_rfl
end
end Go.Proofs.YtmgbgifepccgpaaGreatDoor.crossUnknown
