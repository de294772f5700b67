/- What is known of calls whose arguments hold no address. Printed by a program; each is proved here. No condition. -/
import Derived.Test.YtmgbgifepccgpaaGreatDoorKA0
set_option linter.all false
set_option maxRecDepth 100000
set_option maxHeartbeats 0
namespace Go.Proofs.YtmgbgifepccgpaaGreatDoor.crossUnknown
open Go Go.Og
noncomputable section
def kn0 : List (Nat × List Con) := []
theorem g0 : ∀ p ∈ kn0, Go.Og.Good Tryz.prog glob p.1 p.2 := fun _ h => by cases h
theorem r0 : k0.right (denK (BD [] 100000) kn0 gcl 60 5) = true := by kernel_rfl
theorem x0 : ∃ F, SoundFn Tryz.prog [] glob 5 F ∧ k0.right F = true := ⟨_, denK_ok (BD_ok [] 100000) globLt (by decide) g0 gcl 60 5, r0⟩
def kn1 : List (Nat × List Con) := [(5, [k0])]
theorem g1 : ∀ p ∈ kn1, Go.Og.Good Tryz.prog glob p.1 p.2 := by
  unfold kn1
  simp only [List.forall_mem_cons]
  exact ⟨(show Go.Og.Good _ _ 5 [k0] from by unfold Go.Og.Good; simp only [List.forall_mem_cons]; exact ⟨x0, fun _ h => by cases h⟩), fun _ h => by cases h⟩
theorem r1 : k1.right (denK (BD [] 100000) kn1 gcl 60 4) = true := by kernel_rfl
theorem x1 : ∃ F, SoundFn Tryz.prog [] glob 4 F ∧ k1.right F = true := ⟨_, denK_ok (BD_ok [] 100000) globLt (by decide) g1 gcl 60 4, r1⟩
end
end Go.Proofs.YtmgbgifepccgpaaGreatDoor.crossUnknown
