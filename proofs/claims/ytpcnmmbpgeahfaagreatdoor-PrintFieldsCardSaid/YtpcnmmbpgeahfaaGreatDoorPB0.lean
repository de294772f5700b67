/- The law at some of the texts. Printed by a program. No condition. -/
import Derived.Test.YtpcnmmbpgeahfaaGreatDoorPU
set_option maxRecDepth 100000
set_option maxHeartbeats 0
set_option linter.all false
namespace Go.Proofs.YtpcnmmbpgeahfaaGreatDoor.printFields
open Go Go.Og
noncomputable section
variable (E : List (Nat × Blk)) (W : DrawFn)
theorem p0 : Q E W 4 4 0 T T T T = true := by kernel_rfl
theorem p1 : Q E W 4 4 1 T T F T = true := by kernel_rfl
theorem p2 : Q E W 4 3 0 T T T F = true := by kernel_rfl
theorem p3 : Q E W 3 4 2 T F T T = true := by kernel_rfl
theorem p4 : Q E W 4 4 1 F F T T = true := by kernel_rfl
theorem p5 : Q E W 4 4 2 F T T F = true := by kernel_rfl
theorem p6 : Q E W 4 4 1 T T F F = true := by kernel_rfl
theorem p7 : Q E W 2 4 2 F T T T = true := by kernel_rfl
theorem p8 : Q E W 2 4 0 T T T F = true := by kernel_rfl
theorem p9 : Q E W 4 3 2 T F T F = true := by kernel_rfl
theorem p10 : Q E W 3 4 1 F T F T = true := by kernel_rfl
theorem p11 : Q E W 3 4 0 T F T F = true := by kernel_rfl
theorem p12 : Q E W 0 4 2 T T T T = true := by kernel_rfl
theorem p13 : Q E W 4 4 0 F T F F = true := by kernel_rfl
theorem p14 : Q E W 2 3 2 T T T F = true := by kernel_rfl
theorem p15 : Q E W 1 4 1 T T F T = true := by kernel_rfl
theorem p16 : Q E W 3 3 0 F T T F = true := by kernel_rfl
theorem p17 : Q E W 3 3 1 T T F F = true := by kernel_rfl
theorem p18 : Q E W 2 4 0 F T T F = true := by kernel_rfl
theorem p19 : Q E W 2 4 2 T F T F = true := by kernel_rfl
theorem p20 : Q E W 4 3 2 F T F F = true := by kernel_rfl
theorem p21 : Q E W 3 4 1 F F T F = true := by kernel_rfl
theorem p22 : Q E W 1 3 0 T T T F = true := by kernel_rfl
theorem p23 : Q E W 0 4 0 T F T T = true := by kernel_rfl
theorem p24 : Q E W 0 4 2 T T T F = true := by kernel_rfl
theorem p25 : Q E W 2 3 0 T T F F = true := by kernel_rfl
theorem p26 : Q E W 1 4 2 F T F T = true := by kernel_rfl
theorem p27 : Q E W 1 4 1 T F T F = true := by kernel_rfl
theorem p28 : Q E W 4 2 0 T F F F = true := by kernel_rfl
theorem p29 : Q E W 3 3 1 F F T F = true := by kernel_rfl
theorem p30 : Q E W 2 4 0 F F F T = true := by kernel_rfl
theorem p31 : Q E W 2 4 2 F T F F = true := by kernel_rfl
theorem p32 : Q E W 4 3 1 F F F F = true := by kernel_rfl
theorem p33 : Q E W 2 2 1 T T F F = true := by kernel_rfl
theorem p34 : Q E W 1 3 0 T T F F = true := by kernel_rfl
theorem p35 : Q E W 0 4 2 F T F T = true := by kernel_rfl
theorem p36 : Q E W 0 4 1 T F T F = true := by kernel_rfl
theorem p37 : Q E W 3 2 2 F T F F = true := by kernel_rfl
theorem p38 : Q E W 2 3 1 F T F F = true := by kernel_rfl
theorem p39 : Q E W 1 4 0 F F T F = true := by kernel_rfl
theorem p40 : Q E W 1 4 2 T F F F = true := by kernel_rfl
theorem p41 : Q E W 1 2 2 T T F F = true := by kernel_rfl
theorem p42 : Q E W 0 3 1 T T F F = true := by kernel_rfl
theorem p43 : Q E W 2 2 0 T F F F = true := by kernel_rfl
theorem p44 : Q E W 1 3 1 F T F F = true := by kernel_rfl
theorem p45 : Q E W 0 4 0 F F T F = true := by kernel_rfl
theorem p46 : Q E W 0 4 2 T F F F = true := by kernel_rfl
theorem p47 : Q E W 2 3 2 F F F F = true := by kernel_rfl
theorem p48 : Q E W 2 1 1 T F F F = true := by kernel_rfl
theorem p49 : Q E W 1 2 0 F T F F = true := by kernel_rfl
theorem p50 : Q E W 0 3 2 F F T F = true := by kernel_rfl
theorem p51 : Q E W 4 0 1 F F F F = true := by kernel_rfl
theorem p52 : Q E W 1 3 0 F F F F = true := by kernel_rfl
theorem p53 : Q E W 0 2 0 F T F F = true := by kernel_rfl
theorem p54 : Q E W 3 0 2 F F F F = true := by kernel_rfl
theorem p55 : Q E W 0 3 1 F F F F = true := by kernel_rfl
theorem p56 : Q E W 0 2 1 F F F F = true := by kernel_rfl
theorem p57 : Q E W 0 0 0 F F F F = true := by kernel_rfl
theorem p58 : Q E W 0 0 2 F F F F = true := by kernel_rfl
end
end Go.Proofs.YtpcnmmbpgeahfaaGreatDoor.printFields
