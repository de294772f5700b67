/- The law at some of the texts. Printed by a program. No condition. -/
import Derived.Test.YtpcnmmbpgeahfaaGreatDoorPU
set_option maxRecDepth 100000
set_option maxHeartbeats 0
set_option linter.all false
namespace Go.Proofs.YtpcnmmbpgeahfaaGreatDoor.printFields
open Go Go.Og
noncomputable section
variable (E : List (Nat × Blk)) (W : DrawFn)
theorem p349 : Q E W 4 4 0 F T T T = true := by kernel_rfl
theorem p350 : Q E W 4 4 2 F T T T = true := by kernel_rfl
theorem p351 : Q E W 4 4 1 T T T F = true := by kernel_rfl
theorem p352 : Q E W 3 4 0 T F T T = true := by kernel_rfl
theorem p353 : Q E W 3 4 2 T T T F = true := by kernel_rfl
theorem p354 : Q E W 4 4 2 T F F T = true := by kernel_rfl
theorem p355 : Q E W 1 4 1 T T T T = true := by kernel_rfl
theorem p356 : Q E W 2 4 1 F T T T = true := by kernel_rfl
theorem p357 : Q E W 2 4 2 T T F T = true := by kernel_rfl
theorem p358 : Q E W 4 3 1 T F T F = true := by kernel_rfl
theorem p359 : Q E W 3 4 0 F T F T = true := by kernel_rfl
theorem p360 : Q E W 3 4 2 T F F T = true := by kernel_rfl
theorem p361 : Q E W 0 4 1 T T T T = true := by kernel_rfl
theorem p362 : Q E W 4 4 2 F F T F = true := by kernel_rfl
theorem p363 : Q E W 2 3 1 T T T F = true := by kernel_rfl
theorem p364 : Q E W 1 4 0 T T F T = true := by kernel_rfl
theorem p365 : Q E W 4 2 2 T T F F = true := by kernel_rfl
theorem p366 : Q E W 3 3 0 T T F F = true := by kernel_rfl
theorem p367 : Q E W 2 4 2 F T F T = true := by kernel_rfl
theorem p368 : Q E W 2 4 1 T F T F = true := by kernel_rfl
theorem p369 : Q E W 4 3 1 F T F F = true := by kernel_rfl
theorem p370 : Q E W 3 4 0 F F T F = true := by kernel_rfl
theorem p371 : Q E W 3 4 2 T F F F = true := by kernel_rfl
theorem p372 : Q E W 0 4 2 T T F T = true := by kernel_rfl
theorem p373 : Q E W 3 2 1 T T F F = true := by kernel_rfl
theorem p374 : Q E W 2 3 0 F T T F = true := by kernel_rfl
theorem p375 : Q E W 2 3 2 T T F F = true := by kernel_rfl
theorem p376 : Q E W 1 4 1 F T T F = true := by kernel_rfl
theorem p377 : Q E W 1 4 0 T T F F = true := by kernel_rfl
theorem p378 : Q E W 3 3 0 F T F F = true := by kernel_rfl
theorem p379 : Q E W 2 4 2 F F F T = true := by kernel_rfl
theorem p380 : Q E W 2 4 1 T F F F = true := by kernel_rfl
theorem p381 : Q E W 3 4 1 F F F F = true := by kernel_rfl
theorem p382 : Q E W 1 3 2 F T T F = true := by kernel_rfl
theorem p383 : Q E W 0 4 1 F F T T = true := by kernel_rfl
theorem p384 : Q E W 0 4 0 T F F T = true := by kernel_rfl
theorem p385 : Q E W 0 4 2 T T F F = true := by kernel_rfl
theorem p386 : Q E W 2 3 0 F F T F = true := by kernel_rfl
theorem p387 : Q E W 2 3 2 T F F F = true := by kernel_rfl
theorem p388 : Q E W 1 4 1 F T F F = true := by kernel_rfl
theorem p389 : Q E W 3 3 0 F F F F = true := by kernel_rfl
theorem p390 : Q E W 2 4 1 F F F F = true := by kernel_rfl
theorem p391 : Q E W 0 3 0 T F T F = true := by kernel_rfl
theorem p392 : Q E W 3 1 2 T F F F = true := by kernel_rfl
theorem p393 : Q E W 1 3 0 F F T F = true := by kernel_rfl
theorem p394 : Q E W 1 3 2 T F F F = true := by kernel_rfl
theorem p395 : Q E W 0 4 1 F T F F = true := by kernel_rfl
theorem p396 : Q E W 3 2 1 F F F F = true := by kernel_rfl
theorem p397 : Q E W 0 2 0 T T F F = true := by kernel_rfl
theorem p398 : Q E W 1 2 1 F T F F = true := by kernel_rfl
theorem p399 : Q E W 0 3 0 F T F F = true := by kernel_rfl
theorem p400 : Q E W 4 0 2 F F F F = true := by kernel_rfl
theorem p401 : Q E W 1 3 1 F F F F = true := by kernel_rfl
theorem p402 : Q E W 0 2 1 F T F F = true := by kernel_rfl
theorem p403 : Q E W 2 1 0 F F F F = true := by kernel_rfl
theorem p404 : Q E W 0 3 2 F F F F = true := by kernel_rfl
theorem p405 : Q E W 0 2 2 F F F F = true := by kernel_rfl
theorem p406 : Q E W 0 0 1 F F F F = true := by kernel_rfl
end
end Go.Proofs.YtpcnmmbpgeahfaaGreatDoor.printFields
