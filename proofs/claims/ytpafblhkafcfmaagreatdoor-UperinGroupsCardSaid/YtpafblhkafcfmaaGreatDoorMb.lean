/- Of UperinGroups: what the evaluator answers at some of the arguments. No condition. -/
import Derived.Test.YtpafblhkafcfmaaGreatDoorK
set_option maxRecDepth 100000
set_option maxHeartbeats 0
set_option linter.all false
namespace Go.Proofs.YtpafblhkafcfmaaGreatDoor.uperinGroups
open Go Go.Og
theorem r_ftt : okB (denK (BD [] 100000) kn 61 3 [.bool false, .bool true, .bool true] ⟨100, []⟩) = true := by kernel_rfl
theorem r_ftf : okB (denK (BD [] 100000) kn 61 3 [.bool false, .bool true, .bool false] ⟨100, []⟩) = true := by kernel_rfl
theorem r_fft : okB (denK (BD [] 100000) kn 61 3 [.bool false, .bool false, .bool true] ⟨100, []⟩) = true := by kernel_rfl
theorem r_fff : okB (denK (BD [] 100000) kn 61 3 [.bool false, .bool false, .bool false] ⟨100, []⟩) = true := by kernel_rfl
end Go.Proofs.YtpafblhkafcfmaaGreatDoor.uperinGroups
