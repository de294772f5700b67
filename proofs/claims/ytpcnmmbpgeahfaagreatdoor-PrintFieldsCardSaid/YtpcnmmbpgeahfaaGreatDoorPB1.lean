/- The law at some of the texts. Printed by a program. No condition. -/
import Derived.Test.YtpcnmmbpgeahfaaGreatDoorPU
set_option maxRecDepth 100000
set_option maxHeartbeats 0
set_option linter.all false
namespace Go.Proofs.YtpcnmmbpgeahfaaGreatDoor.printFields
open Go Go.Og
noncomputable section
variable (E : List (Nat × Blk)) (W : DrawFn)
theorem p59 : Q E W 4 4 1 T T T T = true := by kernel_rfl
theorem p60 : Q E W 4 4 2 T T F T = true := by kernel_rfl
theorem p61 : Q E W 4 3 1 T T T F = true := by kernel_rfl
theorem p62 : Q E W 3 4 0 T T F T = true := by kernel_rfl
theorem p63 : Q E W 4 4 2 F F T T = true := by kernel_rfl
theorem p64 : Q E W 4 4 0 T F F T = true := by kernel_rfl
theorem p65 : Q E W 4 4 2 T T F F = true := by kernel_rfl
theorem p66 : Q E W 2 4 0 T F T T = true := by kernel_rfl
theorem p67 : Q E W 2 4 1 T T T F = true := by kernel_rfl
theorem p68 : Q E W 4 3 0 T T F F = true := by kernel_rfl
theorem p69 : Q E W 3 4 2 F T F T = true := by kernel_rfl
theorem p70 : Q E W 3 4 1 T F T F = true := by kernel_rfl
theorem p71 : Q E W 4 4 0 F F F T = true := by kernel_rfl
theorem p72 : Q E W 4 4 2 F F F T = true := by kernel_rfl
theorem p73 : Q E W 4 4 1 T F F F = true := by kernel_rfl
theorem p74 : Q E W 1 4 0 T F T T = true := by kernel_rfl
theorem p75 : Q E W 1 4 2 T T T F = true := by kernel_rfl
theorem p76 : Q E W 2 4 2 F F T T = true := by kernel_rfl
theorem p77 : Q E W 2 4 1 T F F T = true := by kernel_rfl
theorem p78 : Q E W 4 3 0 F F T F = true := by kernel_rfl
theorem p79 : Q E W 4 3 1 F F T F = true := by kernel_rfl
theorem p80 : Q E W 3 4 0 F F F T = true := by kernel_rfl
theorem p81 : Q E W 3 4 2 F T F F = true := by kernel_rfl
theorem p82 : Q E W 0 4 1 F T T T = true := by kernel_rfl
theorem p83 : Q E W 0 4 0 T T T F = true := by kernel_rfl
theorem p84 : Q E W 2 3 1 T F T F = true := by kernel_rfl
theorem p85 : Q E W 1 4 0 F T F T = true := by kernel_rfl
theorem p86 : Q E W 1 4 2 T F F T = true := by kernel_rfl
theorem p87 : Q E W 4 2 1 F T F F = true := by kernel_rfl
theorem p88 : Q E W 4 2 2 T F F F = true := by kernel_rfl
theorem p89 : Q E W 3 3 1 T F F F = true := by kernel_rfl
theorem p90 : Q E W 2 4 0 F T F F = true := by kernel_rfl
theorem p91 : Q E W 0 3 2 T T T F = true := by kernel_rfl
theorem p92 : Q E W 1 3 1 T F T F = true := by kernel_rfl
theorem p93 : Q E W 0 4 0 F T F T = true := by kernel_rfl
theorem p94 : Q E W 0 4 2 T F F T = true := by kernel_rfl
theorem p95 : Q E W 4 1 1 T F F F = true := by kernel_rfl
theorem p96 : Q E W 3 2 0 F T F F = true := by kernel_rfl
theorem p97 : Q E W 2 3 2 F F T F = true := by kernel_rfl
theorem p98 : Q E W 1 4 1 F F F T = true := by kernel_rfl
theorem p99 : Q E W 1 4 0 T F F F = true := by kernel_rfl
theorem p100 : Q E W 1 2 0 T T F F = true := by kernel_rfl
theorem p101 : Q E W 0 3 1 T F T F = true := by kernel_rfl
theorem p102 : Q E W 2 2 0 F T F F = true := by kernel_rfl
theorem p103 : Q E W 1 3 1 F F T F = true := by kernel_rfl
theorem p104 : Q E W 0 4 0 F F F T = true := by kernel_rfl
theorem p105 : Q E W 0 4 2 F T F F = true := by kernel_rfl
theorem p106 : Q E W 3 2 2 F F F F = true := by kernel_rfl
theorem p107 : Q E W 0 2 1 T T F F = true := by kernel_rfl
theorem p108 : Q E W 1 2 2 F T F F = true := by kernel_rfl
theorem p109 : Q E W 0 3 1 F T F F = true := by kernel_rfl
theorem p110 : Q E W 3 1 0 F F F F = true := by kernel_rfl
theorem p111 : Q E W 1 3 2 F F F F = true := by kernel_rfl
theorem p112 : Q E W 0 2 2 F T F F = true := by kernel_rfl
theorem p113 : Q E W 2 1 1 F F F F = true := by kernel_rfl
theorem p114 : Q E W 0 1 0 T F F F = true := by kernel_rfl
theorem p115 : Q E W 2 0 2 F F F F = true := by kernel_rfl
theorem p116 : Q E W 1 0 1 F F F F = true := by kernel_rfl
end
end Go.Proofs.YtpcnmmbpgeahfaaGreatDoor.printFields
