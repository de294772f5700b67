/- The law at some of the texts. Printed by a program. No condition. -/
import Derived.Test.YtpcnmmbpgeahfaaGreatDoorPU
set_option maxRecDepth 100000
set_option maxHeartbeats 0
set_option linter.all false
namespace Go.Proofs.YtpcnmmbpgeahfaaGreatDoor.printFields
open Go Go.Og
noncomputable section
variable (E : List (Nat × Blk)) (W : DrawFn)
theorem p175 : Q E W 3 4 0 T T T T = true := by kernel_rfl
theorem p176 : Q E W 4 4 1 T F T T = true := by kernel_rfl
theorem p177 : Q E W 2 4 0 T T T T = true := by kernel_rfl
theorem p178 : Q E W 3 4 0 F T T T = true := by kernel_rfl
theorem p179 : Q E W 3 4 2 T T F T = true := by kernel_rfl
theorem p180 : Q E W 4 4 2 F T F T = true := by kernel_rfl
theorem p181 : Q E W 4 4 1 T F T F = true := by kernel_rfl
theorem p182 : Q E W 3 3 1 T T T F = true := by kernel_rfl
theorem p183 : Q E W 2 4 2 T F T T = true := by kernel_rfl
theorem p184 : Q E W 4 3 1 F T T F = true := by kernel_rfl
theorem p185 : Q E W 3 4 0 F F T T = true := by kernel_rfl
theorem p186 : Q E W 3 4 2 F T T F = true := by kernel_rfl
theorem p187 : Q E W 3 4 1 T T F F = true := by kernel_rfl
theorem p188 : Q E W 4 4 2 F T F F = true := by kernel_rfl
theorem p189 : Q E W 1 4 1 F T T T = true := by kernel_rfl
theorem p190 : Q E W 1 4 0 T T T F = true := by kernel_rfl
theorem p191 : Q E W 3 3 2 F T T F = true := by kernel_rfl
theorem p192 : Q E W 2 4 0 F F T T = true := by kernel_rfl
theorem p193 : Q E W 2 4 2 F T T F = true := by kernel_rfl
theorem p194 : Q E W 2 4 1 T T F F = true := by kernel_rfl
theorem p195 : Q E W 4 3 1 T F F F = true := by kernel_rfl
theorem p196 : Q E W 3 4 0 F T F F = true := by kernel_rfl
theorem p197 : Q E W 1 3 2 T T T F = true := by kernel_rfl
theorem p198 : Q E W 0 4 2 T F T T = true := by kernel_rfl
theorem p199 : Q E W 4 4 1 F F F F = true := by kernel_rfl
theorem p200 : Q E W 2 3 2 F T T F = true := by kernel_rfl
theorem p201 : Q E W 1 4 1 F F T T = true := by kernel_rfl
theorem p202 : Q E W 1 4 0 T F F T = true := by kernel_rfl
theorem p203 : Q E W 1 4 2 T T F F = true := by kernel_rfl
theorem p204 : Q E W 3 3 2 F T F F = true := by kernel_rfl
theorem p205 : Q E W 2 4 1 F F T F = true := by kernel_rfl
theorem p206 : Q E W 0 3 0 T T T F = true := by kernel_rfl
theorem p207 : Q E W 4 3 2 F F F F = true := by kernel_rfl
theorem p208 : Q E W 2 2 2 T T F F = true := by kernel_rfl
theorem p209 : Q E W 1 3 1 T T F F = true := by kernel_rfl
theorem p210 : Q E W 0 4 0 F T T F = true := by kernel_rfl
theorem p211 : Q E W 0 4 2 T F T F = true := by kernel_rfl
theorem p212 : Q E W 3 2 0 T F F F = true := by kernel_rfl
theorem p213 : Q E W 2 3 2 F T F F = true := by kernel_rfl
theorem p214 : Q E W 1 4 1 F F T F = true := by kernel_rfl
theorem p215 : Q E W 4 2 0 F F F F = true := by kernel_rfl
theorem p216 : Q E W 3 3 1 F F F F = true := by kernel_rfl
theorem p217 : Q E W 0 3 0 F T T F = true := by kernel_rfl
theorem p218 : Q E W 0 3 2 T T F F = true := by kernel_rfl
theorem p219 : Q E W 1 3 2 F T F F = true := by kernel_rfl
theorem p220 : Q E W 0 4 1 F F T F = true := by kernel_rfl
theorem p221 : Q E W 4 1 0 F F F F = true := by kernel_rfl
theorem p222 : Q E W 4 1 1 F F F F = true := by kernel_rfl
theorem p223 : Q E W 1 4 0 F F F F = true := by kernel_rfl
theorem p224 : Q E W 1 2 1 T F F F = true := by kernel_rfl
theorem p225 : Q E W 0 3 0 T F F F = true := by kernel_rfl
theorem p226 : Q E W 3 1 2 F F F F = true := by kernel_rfl
theorem p227 : Q E W 0 4 1 F F F F = true := by kernel_rfl
theorem p228 : Q E W 0 2 1 T F F F = true := by kernel_rfl
theorem p229 : Q E W 1 2 0 F F F F = true := by kernel_rfl
theorem p230 : Q E W 0 1 2 T F F F = true := by kernel_rfl
theorem p231 : Q E W 1 1 1 F F F F = true := by kernel_rfl
theorem p232 : Q E W 0 1 0 F F F F = true := by kernel_rfl
end
end Go.Proofs.YtpcnmmbpgeahfaaGreatDoor.printFields
