/- What is known of calls whose arguments hold no address. Printed by a program; each is proved here. No condition. -/
import Derived.Test.YthkkkmkcjgaghaaGreatDoorD
set_option linter.all false
set_option maxRecDepth 100000
set_option maxHeartbeats 0
namespace Go.Proofs.YthkkkmkcjgaghaaGreatDoor.storeNil
open Go Go.Og
noncomputable section
/-- ogham/oghamlaw23.awake -/
def k0 : Con := ⟨[], .bool true,
  [], 400⟩
def kn0 : List (Nat × List Con) := []
theorem g0 : ∀ p ∈ kn0, Go.Og.Good Tryz.prog glob p.1 p.2 := fun _ h => nomatch h
theorem r0 : k0.right (denK (BD [] 100000) kn0 60 12) = true := by kernel_rfl
theorem x0 : ∃ F, SoundFn Tryz.prog [] glob 12 F ∧ k0.right F = true := ⟨_, denK_ok (BD_ok [] 100000) globLt (by decide) g0 60 12, r0⟩
def kn : List (Nat × List Con) := [(12, [k0])]
theorem kn_ok : ∀ p ∈ kn, Go.Og.Good Tryz.prog glob p.1 p.2 := by
  unfold kn
  simp only [List.forall_mem_cons]
  exact ⟨(show Go.Og.Good _ _ 12 [k0] from by unfold Go.Og.Good; simp only [List.forall_mem_cons]; exact ⟨x0, fun _ h => nomatch h⟩), fun _ h => nomatch h⟩
theorem DK_ok (d f : Nat) : SoundFn Tryz.prog [] glob f (denK (BD [] 100000) kn d f) := denK_ok (BD_ok [] 100000) globLt (by decide) kn_ok d f
end
end Go.Proofs.YthkkkmkcjgaghaaGreatDoor.storeNil
