/- What is known of calls whose arguments hold no address. Printed by a program; each is proved here. No condition. -/
import Derived.Test.YtmgbgifepccgpaaGreatDoorKA1
import Derived.Test.YtmgbgifepccgpaaGreatDoorKA2
set_option linter.all false
set_option maxRecDepth 100000
set_option maxHeartbeats 0
namespace Go.Proofs.YtmgbgifepccgpaaGreatDoor.crossUnknown
open Go Go.Og
noncomputable section
def kn : List (Nat × List Con) := [(5, [k0]), (4, [k1, k2]), (8, [k3])]
theorem kn_ok : ∀ p ∈ kn, Go.Og.Good Tryz.prog glob p.1 p.2 := by
  unfold kn
  simp only [List.forall_mem_cons]
  exact ⟨(show Go.Og.Good _ _ 5 [k0] from by unfold Go.Og.Good; simp only [List.forall_mem_cons]; exact ⟨x0, fun _ h => by cases h⟩), (show Go.Og.Good _ _ 4 [k1, k2] from by unfold Go.Og.Good; simp only [List.forall_mem_cons]; exact ⟨x1, x2, fun _ h => by cases h⟩), (show Go.Og.Good _ _ 8 [k3] from by unfold Go.Og.Good; simp only [List.forall_mem_cons]; exact ⟨x3, fun _ h => by cases h⟩), fun _ h => by cases h⟩
theorem DK_ok (d f : Nat) : SoundFn Tryz.prog [] glob f (denK (BD [] 100000) kn gcl d f) := denK_ok (BD_ok [] 100000) globLt (by decide) kn_ok gcl d f
end
end Go.Proofs.YtmgbgifepccgpaaGreatDoor.crossUnknown
