/- What is known of calls whose arguments hold no address. Printed by a program; each is proved here. No condition. -/
import Derived.Test.YthkkkmkcjgaghaaGreatDoorKA0
set_option linter.all false
set_option maxRecDepth 100000
set_option maxHeartbeats 0
namespace Go.Proofs.YthkkkmkcjgaghaaGreatDoor.auditRules
open Go Go.Og
noncomputable section
def kn30 : List (Nat × List Con) := []
theorem g30 : ∀ p ∈ kn30, Go.Og.Good Tryz.prog glob p.1 p.2 := fun _ h => nomatch h
theorem r30 : k30.right (denK (BD [] 100000) kn30 gcl 60 64) = true := by kernel_rfl
theorem x30 : ∃ F, SoundFn Tryz.prog [] glob 64 F ∧ k30.right F = true := ⟨_, denK_ok (BD_ok [] 100000) globLt (by decide) g30 gcl 60 64, r30⟩
def kn31 : List (Nat × List Con) := [(64, [k30])]
theorem g31 : ∀ p ∈ kn31, Go.Og.Good Tryz.prog glob p.1 p.2 := by
  unfold kn31
  simp only [List.forall_mem_cons]
  exact ⟨(show Go.Og.Good _ _ 64 [k30] from by unfold Go.Og.Good; simp only [List.forall_mem_cons]; exact ⟨x30, fun _ h => nomatch h⟩), fun _ h => nomatch h⟩
theorem r31 : k31.right (denK (BD [] 100000) kn31 gcl 60 39) = true := by kernel_rfl
theorem x31 : ∃ F, SoundFn Tryz.prog [] glob 39 F ∧ k31.right F = true := ⟨_, denK_ok (BD_ok [] 100000) globLt (by decide) g31 gcl 60 39, r31⟩
def kn32 : List (Nat × List Con) := [(64, [k30]), (39, [k31])]
theorem g32 : ∀ p ∈ kn32, Go.Og.Good Tryz.prog glob p.1 p.2 := by
  unfold kn32
  simp only [List.forall_mem_cons]
  exact ⟨(show Go.Og.Good _ _ 64 [k30] from by unfold Go.Og.Good; simp only [List.forall_mem_cons]; exact ⟨x30, fun _ h => nomatch h⟩), (show Go.Og.Good _ _ 39 [k31] from by unfold Go.Og.Good; simp only [List.forall_mem_cons]; exact ⟨x31, fun _ h => nomatch h⟩), fun _ h => nomatch h⟩
theorem r32 : k32.right (denK (BD [] 100000) kn32 gcl 60 64) = true := by kernel_rfl
theorem x32 : ∃ F, SoundFn Tryz.prog [] glob 64 F ∧ k32.right F = true := ⟨_, denK_ok (BD_ok [] 100000) globLt (by decide) g32 gcl 60 64, r32⟩
def kn33 : List (Nat × List Con) := [(64, [k30, k32]), (39, [k31])]
theorem g33 : ∀ p ∈ kn33, Go.Og.Good Tryz.prog glob p.1 p.2 := by
  unfold kn33
  simp only [List.forall_mem_cons]
  exact ⟨(show Go.Og.Good _ _ 64 [k30, k32] from by unfold Go.Og.Good; simp only [List.forall_mem_cons]; exact ⟨x30, x32, fun _ h => nomatch h⟩), (show Go.Og.Good _ _ 39 [k31] from by unfold Go.Og.Good; simp only [List.forall_mem_cons]; exact ⟨x31, fun _ h => nomatch h⟩), fun _ h => nomatch h⟩
theorem r33 : k33.right (denK (BD [] 100000) kn33 gcl 60 39) = true := by kernel_rfl
theorem x33 : ∃ F, SoundFn Tryz.prog [] glob 39 F ∧ k33.right F = true := ⟨_, denK_ok (BD_ok [] 100000) globLt (by decide) g33 gcl 60 39, r33⟩
def kn34 : List (Nat × List Con) := [(64, [k30, k32]), (39, [k31, k33])]
theorem g34 : ∀ p ∈ kn34, Go.Og.Good Tryz.prog glob p.1 p.2 := by
  unfold kn34
  simp only [List.forall_mem_cons]
  exact ⟨(show Go.Og.Good _ _ 64 [k30, k32] from by unfold Go.Og.Good; simp only [List.forall_mem_cons]; exact ⟨x30, x32, fun _ h => nomatch h⟩), (show Go.Og.Good _ _ 39 [k31, k33] from by unfold Go.Og.Good; simp only [List.forall_mem_cons]; exact ⟨x31, x33, fun _ h => nomatch h⟩), fun _ h => nomatch h⟩
theorem r34 : k34.right (denK (BD [] 100000) kn34 gcl 60 64) = true := by kernel_rfl
theorem x34 : ∃ F, SoundFn Tryz.prog [] glob 64 F ∧ k34.right F = true := ⟨_, denK_ok (BD_ok [] 100000) globLt (by decide) g34 gcl 60 64, r34⟩
def kn35 : List (Nat × List Con) := [(64, [k30, k32, k34]), (39, [k31, k33])]
theorem g35 : ∀ p ∈ kn35, Go.Og.Good Tryz.prog glob p.1 p.2 := by
  unfold kn35
  simp only [List.forall_mem_cons]
  exact ⟨(show Go.Og.Good _ _ 64 [k30, k32, k34] from by unfold Go.Og.Good; simp only [List.forall_mem_cons]; exact ⟨x30, x32, x34, fun _ h => nomatch h⟩), (show Go.Og.Good _ _ 39 [k31, k33] from by unfold Go.Og.Good; simp only [List.forall_mem_cons]; exact ⟨x31, x33, fun _ h => nomatch h⟩), fun _ h => nomatch h⟩
theorem r35 : k35.right (denK (BD [] 100000) kn35 gcl 60 39) = true := by kernel_rfl
theorem x35 : ∃ F, SoundFn Tryz.prog [] glob 39 F ∧ k35.right F = true := ⟨_, denK_ok (BD_ok [] 100000) globLt (by decide) g35 gcl 60 39, r35⟩
def kn36 : List (Nat × List Con) := [(64, [k30, k32, k34]), (39, [k31, k33, k35])]
theorem g36 : ∀ p ∈ kn36, Go.Og.Good Tryz.prog glob p.1 p.2 := by
  unfold kn36
  simp only [List.forall_mem_cons]
  exact ⟨(show Go.Og.Good _ _ 64 [k30, k32, k34] from by unfold Go.Og.Good; simp only [List.forall_mem_cons]; exact ⟨x30, x32, x34, fun _ h => nomatch h⟩), (show Go.Og.Good _ _ 39 [k31, k33, k35] from by unfold Go.Og.Good; simp only [List.forall_mem_cons]; exact ⟨x31, x33, x35, fun _ h => nomatch h⟩), fun _ h => nomatch h⟩
theorem r36 : k36.right (denK (BD [] 100000) kn36 gcl 60 64) = true := by kernel_rfl
theorem x36 : ∃ F, SoundFn Tryz.prog [] glob 64 F ∧ k36.right F = true := ⟨_, denK_ok (BD_ok [] 100000) globLt (by decide) g36 gcl 60 64, r36⟩
def kn37 : List (Nat × List Con) := [(64, [k30, k32, k34, k36]), (39, [k31, k33, k35])]
theorem g37 : ∀ p ∈ kn37, Go.Og.Good Tryz.prog glob p.1 p.2 := by
  unfold kn37
  simp only [List.forall_mem_cons]
  exact ⟨(show Go.Og.Good _ _ 64 [k30, k32, k34, k36] from by unfold Go.Og.Good; simp only [List.forall_mem_cons]; exact ⟨x30, x32, x34, x36, fun _ h => nomatch h⟩), (show Go.Og.Good _ _ 39 [k31, k33, k35] from by unfold Go.Og.Good; simp only [List.forall_mem_cons]; exact ⟨x31, x33, x35, fun _ h => nomatch h⟩), fun _ h => nomatch h⟩
theorem r37 : k37.right (denK (BD [] 100000) kn37 gcl 60 39) = true := by kernel_rfl
theorem x37 : ∃ F, SoundFn Tryz.prog [] glob 39 F ∧ k37.right F = true := ⟨_, denK_ok (BD_ok [] 100000) globLt (by decide) g37 gcl 60 39, r37⟩
def kn38 : List (Nat × List Con) := [(64, [k30, k32, k34, k36]), (39, [k31, k33, k35, k37])]
theorem g38 : ∀ p ∈ kn38, Go.Og.Good Tryz.prog glob p.1 p.2 := by
  unfold kn38
  simp only [List.forall_mem_cons]
  exact ⟨(show Go.Og.Good _ _ 64 [k30, k32, k34, k36] from by unfold Go.Og.Good; simp only [List.forall_mem_cons]; exact ⟨x30, x32, x34, x36, fun _ h => nomatch h⟩), (show Go.Og.Good _ _ 39 [k31, k33, k35, k37] from by unfold Go.Og.Good; simp only [List.forall_mem_cons]; exact ⟨x31, x33, x35, x37, fun _ h => nomatch h⟩), fun _ h => nomatch h⟩
theorem r38 : k38.right (denK (BD [] 100000) kn38 gcl 60 64) = true := by kernel_rfl
theorem x38 : ∃ F, SoundFn Tryz.prog [] glob 64 F ∧ k38.right F = true := ⟨_, denK_ok (BD_ok [] 100000) globLt (by decide) g38 gcl 60 64, r38⟩
def kn39 : List (Nat × List Con) := [(64, [k30, k32, k34, k36, k38]), (39, [k31, k33, k35, k37])]
theorem g39 : ∀ p ∈ kn39, Go.Og.Good Tryz.prog glob p.1 p.2 := by
  unfold kn39
  simp only [List.forall_mem_cons]
  exact ⟨(show Go.Og.Good _ _ 64 [k30, k32, k34, k36, k38] from by unfold Go.Og.Good; simp only [List.forall_mem_cons]; exact ⟨x30, x32, x34, x36, x38, fun _ h => nomatch h⟩), (show Go.Og.Good _ _ 39 [k31, k33, k35, k37] from by unfold Go.Og.Good; simp only [List.forall_mem_cons]; exact ⟨x31, x33, x35, x37, fun _ h => nomatch h⟩), fun _ h => nomatch h⟩
theorem r39 : k39.right (denK (BD [] 100000) kn39 gcl 60 39) = true := by kernel_rfl
theorem x39 : ∃ F, SoundFn Tryz.prog [] glob 39 F ∧ k39.right F = true := ⟨_, denK_ok (BD_ok [] 100000) globLt (by decide) g39 gcl 60 39, r39⟩
def kn40 : List (Nat × List Con) := [(64, [k30, k32, k34, k36, k38]), (39, [k31, k33, k35, k37, k39])]
theorem g40 : ∀ p ∈ kn40, Go.Og.Good Tryz.prog glob p.1 p.2 := by
  unfold kn40
  simp only [List.forall_mem_cons]
  exact ⟨(show Go.Og.Good _ _ 64 [k30, k32, k34, k36, k38] from by unfold Go.Og.Good; simp only [List.forall_mem_cons]; exact ⟨x30, x32, x34, x36, x38, fun _ h => nomatch h⟩), (show Go.Og.Good _ _ 39 [k31, k33, k35, k37, k39] from by unfold Go.Og.Good; simp only [List.forall_mem_cons]; exact ⟨x31, x33, x35, x37, x39, fun _ h => nomatch h⟩), fun _ h => nomatch h⟩
theorem r40 : k40.right (denK (BD [] 100000) kn40 gcl 60 64) = true := by kernel_rfl
theorem x40 : ∃ F, SoundFn Tryz.prog [] glob 64 F ∧ k40.right F = true := ⟨_, denK_ok (BD_ok [] 100000) globLt (by decide) g40 gcl 60 64, r40⟩
end
end Go.Proofs.YthkkkmkcjgaghaaGreatDoor.auditRules
