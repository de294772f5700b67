/- The law at some of the texts. Printed by a program. No condition. -/
import Derived.Test.YtpcnmmbpgeahfaaGreatDoorPU
set_option maxRecDepth 100000
set_option maxHeartbeats 0
set_option linter.all false
namespace Go.Proofs.YtpcnmmbpgeahfaaGreatDoor.printFields
open Go Go.Og
noncomputable section
variable (E : List (Nat × Blk)) (W : DrawFn)
theorem p407 : Q E W 4 4 1 F T T T = true := by kernel_rfl
theorem p408 : Q E W 4 4 0 T F T T = true := by kernel_rfl
theorem p409 : Q E W 4 4 2 T T T F = true := by kernel_rfl
theorem p410 : Q E W 3 4 1 T F T T = true := by kernel_rfl
theorem p411 : Q E W 4 4 0 F F T T = true := by kernel_rfl
theorem p412 : Q E W 4 4 1 F T F T = true := by kernel_rfl
theorem p413 : Q E W 4 4 0 T F T F = true := by kernel_rfl
theorem p414 : Q E W 1 4 2 T T T T = true := by kernel_rfl
theorem p415 : Q E W 2 4 2 T T T F = true := by kernel_rfl
theorem p416 : Q E W 4 3 1 T T F F = true := by kernel_rfl
theorem p417 : Q E W 3 4 0 F T T F = true := by kernel_rfl
theorem p418 : Q E W 3 4 2 T F T F = true := by kernel_rfl
theorem p419 : Q E W 4 4 1 F F F T = true := by kernel_rfl
theorem p420 : Q E W 4 4 0 F F T F = true := by kernel_rfl
theorem p421 : Q E W 4 4 2 T F F F = true := by kernel_rfl
theorem p422 : Q E W 1 4 1 T F T T = true := by kernel_rfl
theorem p423 : Q E W 4 2 0 T T F F = true := by kernel_rfl
theorem p424 : Q E W 3 3 1 T F T F = true := by kernel_rfl
theorem p425 : Q E W 2 4 0 F T F T = true := by kernel_rfl
theorem p426 : Q E W 2 4 2 T F F T = true := by kernel_rfl
theorem p427 : Q E W 4 3 2 F F T F = true := by kernel_rfl
theorem p428 : Q E W 3 4 1 F F F T = true := by kernel_rfl
theorem p429 : Q E W 3 4 0 T F F F = true := by kernel_rfl
theorem p430 : Q E W 0 4 2 F T T T = true := by kernel_rfl
theorem p431 : Q E W 0 4 1 T T T F = true := by kernel_rfl
theorem p432 : Q E W 2 3 2 T F T F = true := by kernel_rfl
theorem p433 : Q E W 1 4 1 F T F T = true := by kernel_rfl
theorem p434 : Q E W 1 4 0 T F T F = true := by kernel_rfl
theorem p435 : Q E W 4 2 2 F T F F = true := by kernel_rfl
theorem p436 : Q E W 3 3 0 F F T F = true := by kernel_rfl
theorem p437 : Q E W 3 3 2 T F F F = true := by kernel_rfl
theorem p438 : Q E W 2 4 1 F T F F = true := by kernel_rfl
theorem p439 : Q E W 4 3 0 F F F F = true := by kernel_rfl
theorem p440 : Q E W 2 2 0 T T F F = true := by kernel_rfl
theorem p441 : Q E W 1 3 2 T F T F = true := by kernel_rfl
theorem p442 : Q E W 0 4 1 F T F T = true := by kernel_rfl
theorem p443 : Q E W 0 4 0 T F T F = true := by kernel_rfl
theorem p444 : Q E W 3 2 1 F T F F = true := by kernel_rfl
theorem p445 : Q E W 2 3 0 F T F F = true := by kernel_rfl
theorem p446 : Q E W 1 4 2 F F F T = true := by kernel_rfl
theorem p447 : Q E W 1 4 1 T F F F = true := by kernel_rfl
theorem p448 : Q E W 1 2 1 T T F F = true := by kernel_rfl
theorem p449 : Q E W 0 3 0 T T F F = true := by kernel_rfl
theorem p450 : Q E W 2 2 2 F T F F = true := by kernel_rfl
theorem p451 : Q E W 1 3 0 F T F F = true := by kernel_rfl
theorem p452 : Q E W 0 4 2 F F F T = true := by kernel_rfl
theorem p453 : Q E W 0 4 1 T F F F = true := by kernel_rfl
theorem p454 : Q E W 2 3 1 F F F F = true := by kernel_rfl
theorem p455 : Q E W 2 1 0 T F F F = true := by kernel_rfl
theorem p456 : Q E W 2 1 2 T F F F = true := by kernel_rfl
theorem p457 : Q E W 0 3 1 F F T F = true := by kernel_rfl
theorem p458 : Q E W 4 0 0 F F F F = true := by kernel_rfl
theorem p459 : Q E W 2 2 2 F F F F = true := by kernel_rfl
theorem p460 : Q E W 1 1 2 T F F F = true := by kernel_rfl
theorem p461 : Q E W 3 0 1 F F F F = true := by kernel_rfl
theorem p462 : Q E W 0 3 0 F F F F = true := by kernel_rfl
theorem p463 : Q E W 0 2 0 F F F F = true := by kernel_rfl
theorem p464 : Q E W 0 1 2 F F F F = true := by kernel_rfl
end
end Go.Proofs.YtpcnmmbpgeahfaaGreatDoor.printFields
