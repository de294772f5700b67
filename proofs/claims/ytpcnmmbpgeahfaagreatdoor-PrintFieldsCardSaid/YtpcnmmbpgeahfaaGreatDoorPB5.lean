/- The law at some of the texts. Printed by a program. No condition. -/
import Derived.Test.YtpcnmmbpgeahfaaGreatDoorPU
set_option maxRecDepth 100000
set_option maxHeartbeats 0
set_option linter.all false
namespace Go.Proofs.YtpcnmmbpgeahfaaGreatDoor.printFields
open Go Go.Og
noncomputable section
variable (E : List (Nat × Blk)) (W : DrawFn)
theorem p291 : Q E W 3 4 2 T T T T = true := by kernel_rfl
theorem p292 : Q E W 4 4 0 T T F T = true := by kernel_rfl
theorem p293 : Q E W 2 4 2 T T T T = true := by kernel_rfl
theorem p294 : Q E W 3 4 2 F T T T = true := by kernel_rfl
theorem p295 : Q E W 3 4 1 T T T F = true := by kernel_rfl
theorem p296 : Q E W 4 4 1 F T T F = true := by kernel_rfl
theorem p297 : Q E W 4 4 0 T T F F = true := by kernel_rfl
theorem p298 : Q E W 2 4 0 F T T T = true := by kernel_rfl
theorem p299 : Q E W 2 4 1 T T F T = true := by kernel_rfl
theorem p300 : Q E W 4 3 0 T F T F = true := by kernel_rfl
theorem p301 : Q E W 3 4 2 F F T T = true := by kernel_rfl
theorem p302 : Q E W 3 4 1 T F F T = true := by kernel_rfl
theorem p303 : Q E W 0 4 0 T T T T = true := by kernel_rfl
theorem p304 : Q E W 4 4 1 F F T F = true := by kernel_rfl
theorem p305 : Q E W 2 3 0 T T T F = true := by kernel_rfl
theorem p306 : Q E W 1 4 2 T F T T = true := by kernel_rfl
theorem p307 : Q E W 4 2 1 T T F F = true := by kernel_rfl
theorem p308 : Q E W 3 3 2 T F T F = true := by kernel_rfl
theorem p309 : Q E W 2 4 1 F T F T = true := by kernel_rfl
theorem p310 : Q E W 2 4 0 T F T F = true := by kernel_rfl
theorem p311 : Q E W 4 3 0 F T F F = true := by kernel_rfl
theorem p312 : Q E W 3 4 2 F F F T = true := by kernel_rfl
theorem p313 : Q E W 3 4 1 T F F F = true := by kernel_rfl
theorem p314 : Q E W 0 4 1 T T F T = true := by kernel_rfl
theorem p315 : Q E W 3 2 0 T T F F = true := by kernel_rfl
theorem p316 : Q E W 3 2 2 T T F F = true := by kernel_rfl
theorem p317 : Q E W 2 3 1 T T F F = true := by kernel_rfl
theorem p318 : Q E W 1 4 0 F T T F = true := by kernel_rfl
theorem p319 : Q E W 1 4 2 T F T F = true := by kernel_rfl
theorem p320 : Q E W 3 3 2 F F T F = true := by kernel_rfl
theorem p321 : Q E W 2 4 1 F F F T = true := by kernel_rfl
theorem p322 : Q E W 2 4 0 T F F F = true := by kernel_rfl
theorem p323 : Q E W 3 4 0 F F F F = true := by kernel_rfl
theorem p324 : Q E W 1 3 1 F T T F = true := by kernel_rfl
theorem p325 : Q E W 0 4 0 F F T T = true := by kernel_rfl
theorem p326 : Q E W 0 4 2 F T T F = true := by kernel_rfl
theorem p327 : Q E W 0 4 1 T T F F = true := by kernel_rfl
theorem p328 : Q E W 3 2 2 T F F F = true := by kernel_rfl
theorem p329 : Q E W 2 3 1 T F F F = true := by kernel_rfl
theorem p330 : Q E W 1 4 0 F T F F = true := by kernel_rfl
theorem p331 : Q E W 4 2 2 F F F F = true := by kernel_rfl
theorem p332 : Q E W 2 4 0 F F F F = true := by kernel_rfl
theorem p333 : Q E W 0 3 2 F T T F = true := by kernel_rfl
theorem p334 : Q E W 3 1 1 T F F F = true := by kernel_rfl
theorem p335 : Q E W 2 2 2 T F F F = true := by kernel_rfl
theorem p336 : Q E W 1 3 1 T F F F = true := by kernel_rfl
theorem p337 : Q E W 0 4 0 F T F F = true := by kernel_rfl
theorem p338 : Q E W 3 2 0 F F F F = true := by kernel_rfl
theorem p339 : Q E W 1 4 2 F F F F = true := by kernel_rfl
theorem p340 : Q E W 0 3 0 F F T F = true := by kernel_rfl
theorem p341 : Q E W 0 3 2 T F F F = true := by kernel_rfl
theorem p342 : Q E W 2 2 1 F F F F = true := by kernel_rfl
theorem p343 : Q E W 1 1 0 T F F F = true := by kernel_rfl
theorem p344 : Q E W 1 1 1 T F F F = true := by kernel_rfl
theorem p345 : Q E W 3 0 0 F F F F = true := by kernel_rfl
theorem p346 : Q E W 1 2 2 F F F F = true := by kernel_rfl
theorem p347 : Q E W 1 1 2 F F F F = true := by kernel_rfl
theorem p348 : Q E W 0 1 1 F F F F = true := by kernel_rfl
end
end Go.Proofs.YtpcnmmbpgeahfaaGreatDoor.printFields
