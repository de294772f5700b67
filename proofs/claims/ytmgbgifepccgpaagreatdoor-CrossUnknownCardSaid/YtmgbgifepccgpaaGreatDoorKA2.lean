/- What is known of calls whose arguments hold no address. Printed by a program; each is proved here. No condition. -/
import Derived.Test.YtmgbgifepccgpaaGreatDoorKA0
set_option linter.all false
set_option maxRecDepth 100000
set_option maxHeartbeats 0
namespace Go.Proofs.YtmgbgifepccgpaaGreatDoor.crossUnknown
open Go Go.Og
noncomputable section
def kn2 : List (Nat × List Con) := []
theorem g2 : ∀ p ∈ kn2, Go.Og.Good Tryz.prog glob p.1 p.2 := fun _ h => by cases h
theorem r2 : k2.right (denK (BD [] 100000) kn2 gcl 60 4) = true := by kernel_rfl
theorem x2 : ∃ F, SoundFn Tryz.prog [] glob 4 F ∧ k2.right F = true := ⟨_, denK_ok (BD_ok [] 100000) globLt (by decide) g2 gcl 60 4, r2⟩
def kn3 : List (Nat × List Con) := [(4, [k2])]
theorem g3 : ∀ p ∈ kn3, Go.Og.Good Tryz.prog glob p.1 p.2 := by
  unfold kn3
  simp only [List.forall_mem_cons]
  exact ⟨(show Go.Og.Good _ _ 4 [k2] from by unfold Go.Og.Good; simp only [List.forall_mem_cons]; exact ⟨x2, fun _ h => by cases h⟩), fun _ h => by cases h⟩
theorem r3 : k3.right (denK (BD [] 100000) kn3 gcl 60 8) = true := by kernel_rfl
theorem x3 : ∃ F, SoundFn Tryz.prog [] glob 8 F ∧ k3.right F = true := ⟨_, denK_ok (BD_ok [] 100000) globLt (by decide) g3 gcl 60 8, r3⟩
end
end Go.Proofs.YtmgbgifepccgpaaGreatDoor.crossUnknown
