/- The law at some of the texts. Printed by a program. No condition. -/
import Derived.Test.YtpcnmmbpgeahfaaGreatDoorPU
set_option maxRecDepth 100000
set_option maxHeartbeats 0
set_option linter.all false
namespace Go.Proofs.YtpcnmmbpgeahfaaGreatDoor.printFields
open Go Go.Og
noncomputable section
variable (E : List (Nat × Blk)) (W : DrawFn)
theorem p233 : Q E W 3 4 1 T T T T = true := by kernel_rfl
theorem p234 : Q E W 4 4 2 T F T T = true := by kernel_rfl
theorem p235 : Q E W 2 4 1 T T T T = true := by kernel_rfl
theorem p236 : Q E W 3 4 1 F T T T = true := by kernel_rfl
theorem p237 : Q E W 3 4 0 T T T F = true := by kernel_rfl
theorem p238 : Q E W 4 4 0 F T T F = true := by kernel_rfl
theorem p239 : Q E W 4 4 2 T F T F = true := by kernel_rfl
theorem p240 : Q E W 3 3 2 T T T F = true := by kernel_rfl
theorem p241 : Q E W 2 4 0 T T F T = true := by kernel_rfl
theorem p242 : Q E W 4 3 2 F T T F = true := by kernel_rfl
theorem p243 : Q E W 3 4 1 F F T T = true := by kernel_rfl
theorem p244 : Q E W 3 4 0 T F F T = true := by kernel_rfl
theorem p245 : Q E W 3 4 2 T T F F = true := by kernel_rfl
theorem p246 : Q E W 4 4 0 T F F F = true := by kernel_rfl
theorem p247 : Q E W 1 4 2 F T T T = true := by kernel_rfl
theorem p248 : Q E W 1 4 1 T T T F = true := by kernel_rfl
theorem p249 : Q E W 3 3 0 T F T F = true := by kernel_rfl
theorem p250 : Q E W 2 4 1 F F T T = true := by kernel_rfl
theorem p251 : Q E W 2 4 0 T F F T = true := by kernel_rfl
theorem p252 : Q E W 2 4 2 T T F F = true := by kernel_rfl
theorem p253 : Q E W 4 3 2 T F F F = true := by kernel_rfl
theorem p254 : Q E W 3 4 1 F T F F = true := by kernel_rfl
theorem p255 : Q E W 0 4 0 F T T T = true := by kernel_rfl
theorem p256 : Q E W 0 4 0 T T F T = true := by kernel_rfl
theorem p257 : Q E W 4 4 2 F F F F = true := by kernel_rfl
theorem p258 : Q E W 2 3 0 T F T F = true := by kernel_rfl
theorem p259 : Q E W 1 4 2 F F T T = true := by kernel_rfl
theorem p260 : Q E W 1 4 1 T F F T = true := by kernel_rfl
theorem p261 : Q E W 4 2 0 F T F F = true := by kernel_rfl
theorem p262 : Q E W 4 2 1 T F F F = true := by kernel_rfl
theorem p263 : Q E W 3 3 0 T F F F = true := by kernel_rfl
theorem p264 : Q E W 2 4 2 F F T F = true := by kernel_rfl
theorem p265 : Q E W 0 3 1 T T T F = true := by kernel_rfl
theorem p266 : Q E W 1 3 0 F T T F = true := by kernel_rfl
theorem p267 : Q E W 1 3 2 T T F F = true := by kernel_rfl
theorem p268 : Q E W 0 4 1 F T T F = true := by kernel_rfl
theorem p269 : Q E W 0 4 0 T T F F = true := by kernel_rfl
theorem p270 : Q E W 3 2 1 T F F F = true := by kernel_rfl
theorem p271 : Q E W 2 3 0 T F F F = true := by kernel_rfl
theorem p272 : Q E W 1 4 2 F F T F = true := by kernel_rfl
theorem p273 : Q E W 4 2 1 F F F F = true := by kernel_rfl
theorem p274 : Q E W 3 3 2 F F F F = true := by kernel_rfl
theorem p275 : Q E W 0 3 1 F T T F = true := by kernel_rfl
theorem p276 : Q E W 3 1 0 T F F F = true := by kernel_rfl
theorem p277 : Q E W 2 2 1 T F F F = true := by kernel_rfl
theorem p278 : Q E W 1 3 0 T F F F = true := by kernel_rfl
theorem p279 : Q E W 0 4 2 F F T F = true := by kernel_rfl
theorem p280 : Q E W 4 1 2 F F F F = true := by kernel_rfl
theorem p281 : Q E W 1 4 1 F F F F = true := by kernel_rfl
theorem p282 : Q E W 1 2 2 T F F F = true := by kernel_rfl
theorem p283 : Q E W 0 3 1 T F F F = true := by kernel_rfl
theorem p284 : Q E W 2 2 0 F F F F = true := by kernel_rfl
theorem p285 : Q E W 0 4 2 F F F F = true := by kernel_rfl
theorem p286 : Q E W 0 2 2 T F F F = true := by kernel_rfl
theorem p287 : Q E W 1 2 1 F F F F = true := by kernel_rfl
theorem p288 : Q E W 2 0 0 F F F F = true := by kernel_rfl
theorem p289 : Q E W 2 0 1 F F F F = true := by kernel_rfl
theorem p290 : Q E W 1 0 0 F F F F = true := by kernel_rfl
end
end Go.Proofs.YtpcnmmbpgeahfaaGreatDoor.printFields
