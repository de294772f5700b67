/- The law at some of the texts. Printed by a program. No condition. -/
import Derived.Test.YtpcnmmbpgeahfaaGreatDoorPU
set_option maxRecDepth 100000
set_option maxHeartbeats 0
set_option linter.all false
namespace Go.Proofs.YtpcnmmbpgeahfaaGreatDoor.printFields
open Go Go.Og
noncomputable section
variable (E : List (Nat × Blk)) (W : DrawFn)
theorem p117 : Q E W 4 4 2 T T T T = true := by kernel_rfl
theorem p118 : Q E W 4 4 0 T T T F = true := by kernel_rfl
theorem p119 : Q E W 4 3 2 T T T F = true := by kernel_rfl
theorem p120 : Q E W 3 4 1 T T F T = true := by kernel_rfl
theorem p121 : Q E W 4 4 0 F T F T = true := by kernel_rfl
theorem p122 : Q E W 4 4 1 T F F T = true := by kernel_rfl
theorem p123 : Q E W 1 4 0 T T T T = true := by kernel_rfl
theorem p124 : Q E W 3 3 0 T T T F = true := by kernel_rfl
theorem p125 : Q E W 2 4 1 T F T T = true := by kernel_rfl
theorem p126 : Q E W 4 3 0 F T T F = true := by kernel_rfl
theorem p127 : Q E W 4 3 2 T T F F = true := by kernel_rfl
theorem p128 : Q E W 3 4 1 F T T F = true := by kernel_rfl
theorem p129 : Q E W 3 4 0 T T F F = true := by kernel_rfl
theorem p130 : Q E W 4 4 1 F T F F = true := by kernel_rfl
theorem p131 : Q E W 1 4 0 F T T T = true := by kernel_rfl
theorem p132 : Q E W 1 4 2 T T F T = true := by kernel_rfl
theorem p133 : Q E W 3 3 1 F T T F = true := by kernel_rfl
theorem p134 : Q E W 3 3 2 T T F F = true := by kernel_rfl
theorem p135 : Q E W 2 4 1 F T T F = true := by kernel_rfl
theorem p136 : Q E W 2 4 0 T T F F = true := by kernel_rfl
theorem p137 : Q E W 4 3 0 T F F F = true := by kernel_rfl
theorem p138 : Q E W 3 4 2 F F T F = true := by kernel_rfl
theorem p139 : Q E W 1 3 1 T T T F = true := by kernel_rfl
theorem p140 : Q E W 0 4 1 T F T T = true := by kernel_rfl
theorem p141 : Q E W 4 4 0 F F F F = true := by kernel_rfl
theorem p142 : Q E W 2 3 1 F T T F = true := by kernel_rfl
theorem p143 : Q E W 1 4 0 F F T T = true := by kernel_rfl
theorem p144 : Q E W 1 4 2 F T T F = true := by kernel_rfl
theorem p145 : Q E W 1 4 1 T T F F = true := by kernel_rfl
theorem p146 : Q E W 3 3 1 F T F F = true := by kernel_rfl
theorem p147 : Q E W 2 4 0 F F T F = true := by kernel_rfl
theorem p148 : Q E W 2 4 2 T F F F = true := by kernel_rfl
theorem p149 : Q E W 3 4 2 F F F F = true := by kernel_rfl
theorem p150 : Q E W 1 3 0 T F T F = true := by kernel_rfl
theorem p151 : Q E W 0 4 2 F F T T = true := by kernel_rfl
theorem p152 : Q E W 0 4 1 T F F T = true := by kernel_rfl
theorem p153 : Q E W 4 1 0 T F F F = true := by kernel_rfl
theorem p154 : Q E W 4 1 2 T F F F = true := by kernel_rfl
theorem p155 : Q E W 2 3 1 F F T F = true := by kernel_rfl
theorem p156 : Q E W 1 4 0 F F F T = true := by kernel_rfl
theorem p157 : Q E W 1 4 2 F T F F = true := by kernel_rfl
theorem p158 : Q E W 2 4 2 F F F F = true := by kernel_rfl
theorem p159 : Q E W 0 3 2 T F T F = true := by kernel_rfl
theorem p160 : Q E W 2 2 1 F T F F = true := by kernel_rfl
theorem p161 : Q E W 1 3 2 F F T F = true := by kernel_rfl
theorem p162 : Q E W 0 4 1 F F F T = true := by kernel_rfl
theorem p163 : Q E W 0 4 0 T F F F = true := by kernel_rfl
theorem p164 : Q E W 2 3 0 F F F F = true := by kernel_rfl
theorem p165 : Q E W 0 2 2 T T F F = true := by kernel_rfl
theorem p166 : Q E W 1 2 0 T F F F = true := by kernel_rfl
theorem p167 : Q E W 0 3 2 F T F F = true := by kernel_rfl
theorem p168 : Q E W 3 1 1 F F F F = true := by kernel_rfl
theorem p169 : Q E W 0 4 0 F F F F = true := by kernel_rfl
theorem p170 : Q E W 0 2 0 T F F F = true := by kernel_rfl
theorem p171 : Q E W 2 1 2 F F F F = true := by kernel_rfl
theorem p172 : Q E W 0 1 1 T F F F = true := by kernel_rfl
theorem p173 : Q E W 1 1 0 F F F F = true := by kernel_rfl
theorem p174 : Q E W 1 0 2 F F F F = true := by kernel_rfl
end
end Go.Proofs.YtpcnmmbpgeahfaaGreatDoor.printFields
