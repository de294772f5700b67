/- What is known of calls whose arguments hold no address. Printed by a program; each is proved here. No condition. -/
import Derived.Test.YthkkkmkcjgaghaaGreatDoorKA0
set_option linter.all false
set_option maxRecDepth 100000
set_option maxHeartbeats 0
namespace Go.Proofs.YthkkkmkcjgaghaaGreatDoor.auditRules
open Go Go.Og
noncomputable section
def kn18 : List (Nat × List Con) := []
theorem g18 : ∀ p ∈ kn18, Go.Og.Good Tryz.prog glob p.1 p.2 := fun _ h => nomatch h
theorem r18 : k18.right (denK (BD [] 100000) kn18 gcl 60 64) = true := by kernel_rfl
theorem x18 : ∃ F, SoundFn Tryz.prog [] glob 64 F ∧ k18.right F = true := ⟨_, denK_ok (BD_ok [] 100000) globLt (by decide) g18 gcl 60 64, r18⟩
def kn19 : List (Nat × List Con) := [(64, [k18])]
theorem g19 : ∀ p ∈ kn19, Go.Og.Good Tryz.prog glob p.1 p.2 := by
  unfold kn19
  simp only [List.forall_mem_cons]
  exact ⟨(show Go.Og.Good _ _ 64 [k18] from by unfold Go.Og.Good; simp only [List.forall_mem_cons]; exact ⟨x18, fun _ h => nomatch h⟩), fun _ h => nomatch h⟩
theorem r19 : k19.right (denK (BD [] 100000) kn19 gcl 60 39) = true := by kernel_rfl
theorem x19 : ∃ F, SoundFn Tryz.prog [] glob 39 F ∧ k19.right F = true := ⟨_, denK_ok (BD_ok [] 100000) globLt (by decide) g19 gcl 60 39, r19⟩
def kn20 : List (Nat × List Con) := [(64, [k18]), (39, [k19])]
theorem g20 : ∀ p ∈ kn20, Go.Og.Good Tryz.prog glob p.1 p.2 := by
  unfold kn20
  simp only [List.forall_mem_cons]
  exact ⟨(show Go.Og.Good _ _ 64 [k18] from by unfold Go.Og.Good; simp only [List.forall_mem_cons]; exact ⟨x18, fun _ h => nomatch h⟩), (show Go.Og.Good _ _ 39 [k19] from by unfold Go.Og.Good; simp only [List.forall_mem_cons]; exact ⟨x19, fun _ h => nomatch h⟩), fun _ h => nomatch h⟩
theorem r20 : k20.right (denK (BD [] 100000) kn20 gcl 60 64) = true := by kernel_rfl
theorem x20 : ∃ F, SoundFn Tryz.prog [] glob 64 F ∧ k20.right F = true := ⟨_, denK_ok (BD_ok [] 100000) globLt (by decide) g20 gcl 60 64, r20⟩
def kn21 : List (Nat × List Con) := [(64, [k18, k20]), (39, [k19])]
theorem g21 : ∀ p ∈ kn21, Go.Og.Good Tryz.prog glob p.1 p.2 := by
  unfold kn21
  simp only [List.forall_mem_cons]
  exact ⟨(show Go.Og.Good _ _ 64 [k18, k20] from by unfold Go.Og.Good; simp only [List.forall_mem_cons]; exact ⟨x18, x20, fun _ h => nomatch h⟩), (show Go.Og.Good _ _ 39 [k19] from by unfold Go.Og.Good; simp only [List.forall_mem_cons]; exact ⟨x19, fun _ h => nomatch h⟩), fun _ h => nomatch h⟩
theorem r21 : k21.right (denK (BD [] 100000) kn21 gcl 60 39) = true := by kernel_rfl
theorem x21 : ∃ F, SoundFn Tryz.prog [] glob 39 F ∧ k21.right F = true := ⟨_, denK_ok (BD_ok [] 100000) globLt (by decide) g21 gcl 60 39, r21⟩
def kn22 : List (Nat × List Con) := [(64, [k18, k20]), (39, [k19, k21])]
theorem g22 : ∀ p ∈ kn22, Go.Og.Good Tryz.prog glob p.1 p.2 := by
  unfold kn22
  simp only [List.forall_mem_cons]
  exact ⟨(show Go.Og.Good _ _ 64 [k18, k20] from by unfold Go.Og.Good; simp only [List.forall_mem_cons]; exact ⟨x18, x20, fun _ h => nomatch h⟩), (show Go.Og.Good _ _ 39 [k19, k21] from by unfold Go.Og.Good; simp only [List.forall_mem_cons]; exact ⟨x19, x21, fun _ h => nomatch h⟩), fun _ h => nomatch h⟩
theorem r22 : k22.right (denK (BD [] 100000) kn22 gcl 60 64) = true := by kernel_rfl
theorem x22 : ∃ F, SoundFn Tryz.prog [] glob 64 F ∧ k22.right F = true := ⟨_, denK_ok (BD_ok [] 100000) globLt (by decide) g22 gcl 60 64, r22⟩
def kn23 : List (Nat × List Con) := [(64, [k18, k20, k22]), (39, [k19, k21])]
theorem g23 : ∀ p ∈ kn23, Go.Og.Good Tryz.prog glob p.1 p.2 := by
  unfold kn23
  simp only [List.forall_mem_cons]
  exact ⟨(show Go.Og.Good _ _ 64 [k18, k20, k22] from by unfold Go.Og.Good; simp only [List.forall_mem_cons]; exact ⟨x18, x20, x22, fun _ h => nomatch h⟩), (show Go.Og.Good _ _ 39 [k19, k21] from by unfold Go.Og.Good; simp only [List.forall_mem_cons]; exact ⟨x19, x21, fun _ h => nomatch h⟩), fun _ h => nomatch h⟩
theorem r23 : k23.right (denK (BD [] 100000) kn23 gcl 60 39) = true := by kernel_rfl
theorem x23 : ∃ F, SoundFn Tryz.prog [] glob 39 F ∧ k23.right F = true := ⟨_, denK_ok (BD_ok [] 100000) globLt (by decide) g23 gcl 60 39, r23⟩
def kn24 : List (Nat × List Con) := [(64, [k18, k20, k22]), (39, [k19, k21, k23])]
theorem g24 : ∀ p ∈ kn24, Go.Og.Good Tryz.prog glob p.1 p.2 := by
  unfold kn24
  simp only [List.forall_mem_cons]
  exact ⟨(show Go.Og.Good _ _ 64 [k18, k20, k22] from by unfold Go.Og.Good; simp only [List.forall_mem_cons]; exact ⟨x18, x20, x22, fun _ h => nomatch h⟩), (show Go.Og.Good _ _ 39 [k19, k21, k23] from by unfold Go.Og.Good; simp only [List.forall_mem_cons]; exact ⟨x19, x21, x23, fun _ h => nomatch h⟩), fun _ h => nomatch h⟩
theorem r24 : k24.right (denK (BD [] 100000) kn24 gcl 60 64) = true := by kernel_rfl
theorem x24 : ∃ F, SoundFn Tryz.prog [] glob 64 F ∧ k24.right F = true := ⟨_, denK_ok (BD_ok [] 100000) globLt (by decide) g24 gcl 60 64, r24⟩
def kn25 : List (Nat × List Con) := [(64, [k18, k20, k22, k24]), (39, [k19, k21, k23])]
theorem g25 : ∀ p ∈ kn25, Go.Og.Good Tryz.prog glob p.1 p.2 := by
  unfold kn25
  simp only [List.forall_mem_cons]
  exact ⟨(show Go.Og.Good _ _ 64 [k18, k20, k22, k24] from by unfold Go.Og.Good; simp only [List.forall_mem_cons]; exact ⟨x18, x20, x22, x24, fun _ h => nomatch h⟩), (show Go.Og.Good _ _ 39 [k19, k21, k23] from by unfold Go.Og.Good; simp only [List.forall_mem_cons]; exact ⟨x19, x21, x23, fun _ h => nomatch h⟩), fun _ h => nomatch h⟩
theorem r25 : k25.right (denK (BD [] 100000) kn25 gcl 60 39) = true := by kernel_rfl
theorem x25 : ∃ F, SoundFn Tryz.prog [] glob 39 F ∧ k25.right F = true := ⟨_, denK_ok (BD_ok [] 100000) globLt (by decide) g25 gcl 60 39, r25⟩
def kn26 : List (Nat × List Con) := [(64, [k18, k20, k22, k24]), (39, [k19, k21, k23, k25])]
theorem g26 : ∀ p ∈ kn26, Go.Og.Good Tryz.prog glob p.1 p.2 := by
  unfold kn26
  simp only [List.forall_mem_cons]
  exact ⟨(show Go.Og.Good _ _ 64 [k18, k20, k22, k24] from by unfold Go.Og.Good; simp only [List.forall_mem_cons]; exact ⟨x18, x20, x22, x24, fun _ h => nomatch h⟩), (show Go.Og.Good _ _ 39 [k19, k21, k23, k25] from by unfold Go.Og.Good; simp only [List.forall_mem_cons]; exact ⟨x19, x21, x23, x25, fun _ h => nomatch h⟩), fun _ h => nomatch h⟩
theorem r26 : k26.right (denK (BD [] 100000) kn26 gcl 60 64) = true := by kernel_rfl
theorem x26 : ∃ F, SoundFn Tryz.prog [] glob 64 F ∧ k26.right F = true := ⟨_, denK_ok (BD_ok [] 100000) globLt (by decide) g26 gcl 60 64, r26⟩
def kn27 : List (Nat × List Con) := [(64, [k18, k20, k22, k24, k26]), (39, [k19, k21, k23, k25])]
theorem g27 : ∀ p ∈ kn27, Go.Og.Good Tryz.prog glob p.1 p.2 := by
  unfold kn27
  simp only [List.forall_mem_cons]
  exact ⟨(show Go.Og.Good _ _ 64 [k18, k20, k22, k24, k26] from by unfold Go.Og.Good; simp only [List.forall_mem_cons]; exact ⟨x18, x20, x22, x24, x26, fun _ h => nomatch h⟩), (show Go.Og.Good _ _ 39 [k19, k21, k23, k25] from by unfold Go.Og.Good; simp only [List.forall_mem_cons]; exact ⟨x19, x21, x23, x25, fun _ h => nomatch h⟩), fun _ h => nomatch h⟩
theorem r27 : k27.right (denK (BD [] 100000) kn27 gcl 60 39) = true := by kernel_rfl
theorem x27 : ∃ F, SoundFn Tryz.prog [] glob 39 F ∧ k27.right F = true := ⟨_, denK_ok (BD_ok [] 100000) globLt (by decide) g27 gcl 60 39, r27⟩
def kn28 : List (Nat × List Con) := [(64, [k18, k20, k22, k24, k26]), (39, [k19, k21, k23, k25, k27])]
theorem g28 : ∀ p ∈ kn28, Go.Og.Good Tryz.prog glob p.1 p.2 := by
  unfold kn28
  simp only [List.forall_mem_cons]
  exact ⟨(show Go.Og.Good _ _ 64 [k18, k20, k22, k24, k26] from by unfold Go.Og.Good; simp only [List.forall_mem_cons]; exact ⟨x18, x20, x22, x24, x26, fun _ h => nomatch h⟩), (show Go.Og.Good _ _ 39 [k19, k21, k23, k25, k27] from by unfold Go.Og.Good; simp only [List.forall_mem_cons]; exact ⟨x19, x21, x23, x25, x27, fun _ h => nomatch h⟩), fun _ h => nomatch h⟩
theorem r28 : k28.right (denK (BD [] 100000) kn28 gcl 60 64) = true := by kernel_rfl
theorem x28 : ∃ F, SoundFn Tryz.prog [] glob 64 F ∧ k28.right F = true := ⟨_, denK_ok (BD_ok [] 100000) globLt (by decide) g28 gcl 60 64, r28⟩
def kn29 : List (Nat × List Con) := [(64, [k18, k20, k22, k24, k26, k28]), (39, [k19, k21, k23, k25, k27])]
theorem g29 : ∀ p ∈ kn29, Go.Og.Good Tryz.prog glob p.1 p.2 := by
  unfold kn29
  simp only [List.forall_mem_cons]
  exact ⟨(show Go.Og.Good _ _ 64 [k18, k20, k22, k24, k26, k28] from by unfold Go.Og.Good; simp only [List.forall_mem_cons]; exact ⟨x18, x20, x22, x24, x26, x28, fun _ h => nomatch h⟩), (show Go.Og.Good _ _ 39 [k19, k21, k23, k25, k27] from by unfold Go.Og.Good; simp only [List.forall_mem_cons]; exact ⟨x19, x21, x23, x25, x27, fun _ h => nomatch h⟩), fun _ h => nomatch h⟩
theorem r29 : k29.right (denK (BD [] 100000) kn29 gcl 60 39) = true := by kernel_rfl
theorem x29 : ∃ F, SoundFn Tryz.prog [] glob 39 F ∧ k29.right F = true := ⟨_, denK_ok (BD_ok [] 100000) globLt (by decide) g29 gcl 60 39, r29⟩
end
end Go.Proofs.YthkkkmkcjgaghaaGreatDoor.auditRules
