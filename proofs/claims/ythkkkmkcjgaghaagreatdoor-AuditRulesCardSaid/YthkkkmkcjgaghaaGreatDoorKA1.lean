/- What is known of calls whose arguments hold no address. Printed by a program; each is proved here. No condition. -/
import Derived.Test.YthkkkmkcjgaghaaGreatDoorKA0
set_option linter.all false
set_option maxRecDepth 100000
set_option maxHeartbeats 0
namespace Go.Proofs.YthkkkmkcjgaghaaGreatDoor.auditRules
open Go Go.Og
noncomputable section
def kn0 : List (Nat × List Con) := []
theorem g0 : ∀ p ∈ kn0, Go.Og.Good Tryz.prog glob p.1 p.2 := fun _ h => nomatch h
theorem r0 : k0.right (denK (BD [] 100000) kn0 gcl 60 8) = true := by kernel_rfl
theorem x0 : ∃ F, SoundFn Tryz.prog [] glob 8 F ∧ k0.right F = true := ⟨_, denK_ok (BD_ok [] 100000) globLt (by decide) g0 gcl 60 8, r0⟩
def kn1 : List (Nat × List Con) := [(8, [k0])]
theorem g1 : ∀ p ∈ kn1, Go.Og.Good Tryz.prog glob p.1 p.2 := by
  unfold kn1
  simp only [List.forall_mem_cons]
  exact ⟨(show Go.Og.Good _ _ 8 [k0] from by unfold Go.Og.Good; simp only [List.forall_mem_cons]; exact ⟨x0, fun _ h => nomatch h⟩), fun _ h => nomatch h⟩
theorem r1 : k1.right (denK (BD [] 100000) kn1 gcl 60 39) = true := by kernel_rfl
theorem x1 : ∃ F, SoundFn Tryz.prog [] glob 39 F ∧ k1.right F = true := ⟨_, denK_ok (BD_ok [] 100000) globLt (by decide) g1 gcl 60 39, r1⟩
def kn2 : List (Nat × List Con) := [(8, [k0]), (39, [k1])]
theorem g2 : ∀ p ∈ kn2, Go.Og.Good Tryz.prog glob p.1 p.2 := by
  unfold kn2
  simp only [List.forall_mem_cons]
  exact ⟨(show Go.Og.Good _ _ 8 [k0] from by unfold Go.Og.Good; simp only [List.forall_mem_cons]; exact ⟨x0, fun _ h => nomatch h⟩), (show Go.Og.Good _ _ 39 [k1] from by unfold Go.Og.Good; simp only [List.forall_mem_cons]; exact ⟨x1, fun _ h => nomatch h⟩), fun _ h => nomatch h⟩
theorem r2 : k2.right (denK (BD [] 100000) kn2 gcl 60 39) = true := by kernel_rfl
theorem x2 : ∃ F, SoundFn Tryz.prog [] glob 39 F ∧ k2.right F = true := ⟨_, denK_ok (BD_ok [] 100000) globLt (by decide) g2 gcl 60 39, r2⟩
def kn3 : List (Nat × List Con) := [(8, [k0]), (39, [k1, k2])]
theorem g3 : ∀ p ∈ kn3, Go.Og.Good Tryz.prog glob p.1 p.2 := by
  unfold kn3
  simp only [List.forall_mem_cons]
  exact ⟨(show Go.Og.Good _ _ 8 [k0] from by unfold Go.Og.Good; simp only [List.forall_mem_cons]; exact ⟨x0, fun _ h => nomatch h⟩), (show Go.Og.Good _ _ 39 [k1, k2] from by unfold Go.Og.Good; simp only [List.forall_mem_cons]; exact ⟨x1, x2, fun _ h => nomatch h⟩), fun _ h => nomatch h⟩
theorem r3 : k3.right (denK (BD [] 100000) kn3 gcl 60 64) = true := by kernel_rfl
theorem x3 : ∃ F, SoundFn Tryz.prog [] glob 64 F ∧ k3.right F = true := ⟨_, denK_ok (BD_ok [] 100000) globLt (by decide) g3 gcl 60 64, r3⟩
def kn4 : List (Nat × List Con) := [(8, [k0]), (39, [k1, k2]), (64, [k3])]
theorem g4 : ∀ p ∈ kn4, Go.Og.Good Tryz.prog glob p.1 p.2 := by
  unfold kn4
  simp only [List.forall_mem_cons]
  exact ⟨(show Go.Og.Good _ _ 8 [k0] from by unfold Go.Og.Good; simp only [List.forall_mem_cons]; exact ⟨x0, fun _ h => nomatch h⟩), (show Go.Og.Good _ _ 39 [k1, k2] from by unfold Go.Og.Good; simp only [List.forall_mem_cons]; exact ⟨x1, x2, fun _ h => nomatch h⟩), (show Go.Og.Good _ _ 64 [k3] from by unfold Go.Og.Good; simp only [List.forall_mem_cons]; exact ⟨x3, fun _ h => nomatch h⟩), fun _ h => nomatch h⟩
theorem r4 : k4.right (denK (BD [] 100000) kn4 gcl 60 64) = true := by kernel_rfl
theorem x4 : ∃ F, SoundFn Tryz.prog [] glob 64 F ∧ k4.right F = true := ⟨_, denK_ok (BD_ok [] 100000) globLt (by decide) g4 gcl 60 64, r4⟩
def kn5 : List (Nat × List Con) := [(8, [k0]), (39, [k1, k2]), (64, [k3, k4])]
theorem g5 : ∀ p ∈ kn5, Go.Og.Good Tryz.prog glob p.1 p.2 := by
  unfold kn5
  simp only [List.forall_mem_cons]
  exact ⟨(show Go.Og.Good _ _ 8 [k0] from by unfold Go.Og.Good; simp only [List.forall_mem_cons]; exact ⟨x0, fun _ h => nomatch h⟩), (show Go.Og.Good _ _ 39 [k1, k2] from by unfold Go.Og.Good; simp only [List.forall_mem_cons]; exact ⟨x1, x2, fun _ h => nomatch h⟩), (show Go.Og.Good _ _ 64 [k3, k4] from by unfold Go.Og.Good; simp only [List.forall_mem_cons]; exact ⟨x3, x4, fun _ h => nomatch h⟩), fun _ h => nomatch h⟩
theorem r5 : k5.right (denK (BD [] 100000) kn5 gcl 60 39) = true := by kernel_rfl
theorem x5 : ∃ F, SoundFn Tryz.prog [] glob 39 F ∧ k5.right F = true := ⟨_, denK_ok (BD_ok [] 100000) globLt (by decide) g5 gcl 60 39, r5⟩
def kn6 : List (Nat × List Con) := [(8, [k0]), (39, [k1, k2, k5]), (64, [k3, k4])]
theorem g6 : ∀ p ∈ kn6, Go.Og.Good Tryz.prog glob p.1 p.2 := by
  unfold kn6
  simp only [List.forall_mem_cons]
  exact ⟨(show Go.Og.Good _ _ 8 [k0] from by unfold Go.Og.Good; simp only [List.forall_mem_cons]; exact ⟨x0, fun _ h => nomatch h⟩), (show Go.Og.Good _ _ 39 [k1, k2, k5] from by unfold Go.Og.Good; simp only [List.forall_mem_cons]; exact ⟨x1, x2, x5, fun _ h => nomatch h⟩), (show Go.Og.Good _ _ 64 [k3, k4] from by unfold Go.Og.Good; simp only [List.forall_mem_cons]; exact ⟨x3, x4, fun _ h => nomatch h⟩), fun _ h => nomatch h⟩
theorem r6 : k6.right (denK (BD [] 100000) kn6 gcl 60 39) = true := by kernel_rfl
theorem x6 : ∃ F, SoundFn Tryz.prog [] glob 39 F ∧ k6.right F = true := ⟨_, denK_ok (BD_ok [] 100000) globLt (by decide) g6 gcl 60 39, r6⟩
def kn7 : List (Nat × List Con) := [(8, [k0]), (39, [k1, k2, k5, k6]), (64, [k3, k4])]
theorem g7 : ∀ p ∈ kn7, Go.Og.Good Tryz.prog glob p.1 p.2 := by
  unfold kn7
  simp only [List.forall_mem_cons]
  exact ⟨(show Go.Og.Good _ _ 8 [k0] from by unfold Go.Og.Good; simp only [List.forall_mem_cons]; exact ⟨x0, fun _ h => nomatch h⟩), (show Go.Og.Good _ _ 39 [k1, k2, k5, k6] from by unfold Go.Og.Good; simp only [List.forall_mem_cons]; exact ⟨x1, x2, x5, x6, fun _ h => nomatch h⟩), (show Go.Og.Good _ _ 64 [k3, k4] from by unfold Go.Og.Good; simp only [List.forall_mem_cons]; exact ⟨x3, x4, fun _ h => nomatch h⟩), fun _ h => nomatch h⟩
theorem r7 : k7.right (denK (BD [] 100000) kn7 gcl 60 64) = true := by kernel_rfl
theorem x7 : ∃ F, SoundFn Tryz.prog [] glob 64 F ∧ k7.right F = true := ⟨_, denK_ok (BD_ok [] 100000) globLt (by decide) g7 gcl 60 64, r7⟩
def kn8 : List (Nat × List Con) := [(8, [k0]), (39, [k1, k2, k5, k6]), (64, [k3, k4, k7])]
theorem g8 : ∀ p ∈ kn8, Go.Og.Good Tryz.prog glob p.1 p.2 := by
  unfold kn8
  simp only [List.forall_mem_cons]
  exact ⟨(show Go.Og.Good _ _ 8 [k0] from by unfold Go.Og.Good; simp only [List.forall_mem_cons]; exact ⟨x0, fun _ h => nomatch h⟩), (show Go.Og.Good _ _ 39 [k1, k2, k5, k6] from by unfold Go.Og.Good; simp only [List.forall_mem_cons]; exact ⟨x1, x2, x5, x6, fun _ h => nomatch h⟩), (show Go.Og.Good _ _ 64 [k3, k4, k7] from by unfold Go.Og.Good; simp only [List.forall_mem_cons]; exact ⟨x3, x4, x7, fun _ h => nomatch h⟩), fun _ h => nomatch h⟩
theorem r8 : k8.right (denK (BD [] 100000) kn8 gcl 60 64) = true := by kernel_rfl
theorem x8 : ∃ F, SoundFn Tryz.prog [] glob 64 F ∧ k8.right F = true := ⟨_, denK_ok (BD_ok [] 100000) globLt (by decide) g8 gcl 60 64, r8⟩
def kn9 : List (Nat × List Con) := [(8, [k0]), (39, [k1, k2, k5, k6]), (64, [k3, k4, k7, k8])]
theorem g9 : ∀ p ∈ kn9, Go.Og.Good Tryz.prog glob p.1 p.2 := by
  unfold kn9
  simp only [List.forall_mem_cons]
  exact ⟨(show Go.Og.Good _ _ 8 [k0] from by unfold Go.Og.Good; simp only [List.forall_mem_cons]; exact ⟨x0, fun _ h => nomatch h⟩), (show Go.Og.Good _ _ 39 [k1, k2, k5, k6] from by unfold Go.Og.Good; simp only [List.forall_mem_cons]; exact ⟨x1, x2, x5, x6, fun _ h => nomatch h⟩), (show Go.Og.Good _ _ 64 [k3, k4, k7, k8] from by unfold Go.Og.Good; simp only [List.forall_mem_cons]; exact ⟨x3, x4, x7, x8, fun _ h => nomatch h⟩), fun _ h => nomatch h⟩
theorem r9 : k9.right (denK (BD [] 100000) kn9 gcl 60 39) = true := by kernel_rfl
theorem x9 : ∃ F, SoundFn Tryz.prog [] glob 39 F ∧ k9.right F = true := ⟨_, denK_ok (BD_ok [] 100000) globLt (by decide) g9 gcl 60 39, r9⟩
def kn10 : List (Nat × List Con) := [(8, [k0]), (39, [k1, k2, k5, k6, k9]), (64, [k3, k4, k7, k8])]
theorem g10 : ∀ p ∈ kn10, Go.Og.Good Tryz.prog glob p.1 p.2 := by
  unfold kn10
  simp only [List.forall_mem_cons]
  exact ⟨(show Go.Og.Good _ _ 8 [k0] from by unfold Go.Og.Good; simp only [List.forall_mem_cons]; exact ⟨x0, fun _ h => nomatch h⟩), (show Go.Og.Good _ _ 39 [k1, k2, k5, k6, k9] from by unfold Go.Og.Good; simp only [List.forall_mem_cons]; exact ⟨x1, x2, x5, x6, x9, fun _ h => nomatch h⟩), (show Go.Og.Good _ _ 64 [k3, k4, k7, k8] from by unfold Go.Og.Good; simp only [List.forall_mem_cons]; exact ⟨x3, x4, x7, x8, fun _ h => nomatch h⟩), fun _ h => nomatch h⟩
theorem r10 : k10.right (denK (BD [] 100000) kn10 gcl 60 39) = true := by kernel_rfl
theorem x10 : ∃ F, SoundFn Tryz.prog [] glob 39 F ∧ k10.right F = true := ⟨_, denK_ok (BD_ok [] 100000) globLt (by decide) g10 gcl 60 39, r10⟩
def kn11 : List (Nat × List Con) := [(8, [k0]), (39, [k1, k2, k5, k6, k9, k10]), (64, [k3, k4, k7, k8])]
theorem g11 : ∀ p ∈ kn11, Go.Og.Good Tryz.prog glob p.1 p.2 := by
  unfold kn11
  simp only [List.forall_mem_cons]
  exact ⟨(show Go.Og.Good _ _ 8 [k0] from by unfold Go.Og.Good; simp only [List.forall_mem_cons]; exact ⟨x0, fun _ h => nomatch h⟩), (show Go.Og.Good _ _ 39 [k1, k2, k5, k6, k9, k10] from by unfold Go.Og.Good; simp only [List.forall_mem_cons]; exact ⟨x1, x2, x5, x6, x9, x10, fun _ h => nomatch h⟩), (show Go.Og.Good _ _ 64 [k3, k4, k7, k8] from by unfold Go.Og.Good; simp only [List.forall_mem_cons]; exact ⟨x3, x4, x7, x8, fun _ h => nomatch h⟩), fun _ h => nomatch h⟩
theorem r11 : k11.right (denK (BD [] 100000) kn11 gcl 60 64) = true := by kernel_rfl
theorem x11 : ∃ F, SoundFn Tryz.prog [] glob 64 F ∧ k11.right F = true := ⟨_, denK_ok (BD_ok [] 100000) globLt (by decide) g11 gcl 60 64, r11⟩
def kn12 : List (Nat × List Con) := [(8, [k0]), (39, [k1, k2, k5, k6, k9, k10]), (64, [k3, k4, k7, k8, k11])]
theorem g12 : ∀ p ∈ kn12, Go.Og.Good Tryz.prog glob p.1 p.2 := by
  unfold kn12
  simp only [List.forall_mem_cons]
  exact ⟨(show Go.Og.Good _ _ 8 [k0] from by unfold Go.Og.Good; simp only [List.forall_mem_cons]; exact ⟨x0, fun _ h => nomatch h⟩), (show Go.Og.Good _ _ 39 [k1, k2, k5, k6, k9, k10] from by unfold Go.Og.Good; simp only [List.forall_mem_cons]; exact ⟨x1, x2, x5, x6, x9, x10, fun _ h => nomatch h⟩), (show Go.Og.Good _ _ 64 [k3, k4, k7, k8, k11] from by unfold Go.Og.Good; simp only [List.forall_mem_cons]; exact ⟨x3, x4, x7, x8, x11, fun _ h => nomatch h⟩), fun _ h => nomatch h⟩
theorem r12 : k12.right (denK (BD [] 100000) kn12 gcl 60 64) = true := by kernel_rfl
theorem x12 : ∃ F, SoundFn Tryz.prog [] glob 64 F ∧ k12.right F = true := ⟨_, denK_ok (BD_ok [] 100000) globLt (by decide) g12 gcl 60 64, r12⟩
def kn13 : List (Nat × List Con) := [(8, [k0]), (39, [k1, k2, k5, k6, k9, k10]), (64, [k3, k4, k7, k8, k11, k12])]
theorem g13 : ∀ p ∈ kn13, Go.Og.Good Tryz.prog glob p.1 p.2 := by
  unfold kn13
  simp only [List.forall_mem_cons]
  exact ⟨(show Go.Og.Good _ _ 8 [k0] from by unfold Go.Og.Good; simp only [List.forall_mem_cons]; exact ⟨x0, fun _ h => nomatch h⟩), (show Go.Og.Good _ _ 39 [k1, k2, k5, k6, k9, k10] from by unfold Go.Og.Good; simp only [List.forall_mem_cons]; exact ⟨x1, x2, x5, x6, x9, x10, fun _ h => nomatch h⟩), (show Go.Og.Good _ _ 64 [k3, k4, k7, k8, k11, k12] from by unfold Go.Og.Good; simp only [List.forall_mem_cons]; exact ⟨x3, x4, x7, x8, x11, x12, fun _ h => nomatch h⟩), fun _ h => nomatch h⟩
theorem r13 : k13.right (denK (BD [] 100000) kn13 gcl 60 39) = true := by kernel_rfl
theorem x13 : ∃ F, SoundFn Tryz.prog [] glob 39 F ∧ k13.right F = true := ⟨_, denK_ok (BD_ok [] 100000) globLt (by decide) g13 gcl 60 39, r13⟩
def kn14 : List (Nat × List Con) := [(8, [k0]), (39, [k1, k2, k5, k6, k9, k10, k13]), (64, [k3, k4, k7, k8, k11, k12])]
theorem g14 : ∀ p ∈ kn14, Go.Og.Good Tryz.prog glob p.1 p.2 := by
  unfold kn14
  simp only [List.forall_mem_cons]
  exact ⟨(show Go.Og.Good _ _ 8 [k0] from by unfold Go.Og.Good; simp only [List.forall_mem_cons]; exact ⟨x0, fun _ h => nomatch h⟩), (show Go.Og.Good _ _ 39 [k1, k2, k5, k6, k9, k10, k13] from by unfold Go.Og.Good; simp only [List.forall_mem_cons]; exact ⟨x1, x2, x5, x6, x9, x10, x13, fun _ h => nomatch h⟩), (show Go.Og.Good _ _ 64 [k3, k4, k7, k8, k11, k12] from by unfold Go.Og.Good; simp only [List.forall_mem_cons]; exact ⟨x3, x4, x7, x8, x11, x12, fun _ h => nomatch h⟩), fun _ h => nomatch h⟩
theorem r14 : k14.right (denK (BD [] 100000) kn14 gcl 60 64) = true := by kernel_rfl
theorem x14 : ∃ F, SoundFn Tryz.prog [] glob 64 F ∧ k14.right F = true := ⟨_, denK_ok (BD_ok [] 100000) globLt (by decide) g14 gcl 60 64, r14⟩
def kn15 : List (Nat × List Con) := [(8, [k0]), (39, [k1, k2, k5, k6, k9, k10, k13]), (64, [k3, k4, k7, k8, k11, k12, k14])]
theorem g15 : ∀ p ∈ kn15, Go.Og.Good Tryz.prog glob p.1 p.2 := by
  unfold kn15
  simp only [List.forall_mem_cons]
  exact ⟨(show Go.Og.Good _ _ 8 [k0] from by unfold Go.Og.Good; simp only [List.forall_mem_cons]; exact ⟨x0, fun _ h => nomatch h⟩), (show Go.Og.Good _ _ 39 [k1, k2, k5, k6, k9, k10, k13] from by unfold Go.Og.Good; simp only [List.forall_mem_cons]; exact ⟨x1, x2, x5, x6, x9, x10, x13, fun _ h => nomatch h⟩), (show Go.Og.Good _ _ 64 [k3, k4, k7, k8, k11, k12, k14] from by unfold Go.Og.Good; simp only [List.forall_mem_cons]; exact ⟨x3, x4, x7, x8, x11, x12, x14, fun _ h => nomatch h⟩), fun _ h => nomatch h⟩
theorem r15 : k15.right (denK (BD [] 100000) kn15 gcl 60 39) = true := by kernel_rfl
theorem x15 : ∃ F, SoundFn Tryz.prog [] glob 39 F ∧ k15.right F = true := ⟨_, denK_ok (BD_ok [] 100000) globLt (by decide) g15 gcl 60 39, r15⟩
def kn16 : List (Nat × List Con) := [(8, [k0]), (39, [k1, k2, k5, k6, k9, k10, k13, k15]), (64, [k3, k4, k7, k8, k11, k12, k14])]
theorem g16 : ∀ p ∈ kn16, Go.Og.Good Tryz.prog glob p.1 p.2 := by
  unfold kn16
  simp only [List.forall_mem_cons]
  exact ⟨(show Go.Og.Good _ _ 8 [k0] from by unfold Go.Og.Good; simp only [List.forall_mem_cons]; exact ⟨x0, fun _ h => nomatch h⟩), (show Go.Og.Good _ _ 39 [k1, k2, k5, k6, k9, k10, k13, k15] from by unfold Go.Og.Good; simp only [List.forall_mem_cons]; exact ⟨x1, x2, x5, x6, x9, x10, x13, x15, fun _ h => nomatch h⟩), (show Go.Og.Good _ _ 64 [k3, k4, k7, k8, k11, k12, k14] from by unfold Go.Og.Good; simp only [List.forall_mem_cons]; exact ⟨x3, x4, x7, x8, x11, x12, x14, fun _ h => nomatch h⟩), fun _ h => nomatch h⟩
theorem r16 : k16.right (denK (BD [] 100000) kn16 gcl 60 64) = true := by kernel_rfl
theorem x16 : ∃ F, SoundFn Tryz.prog [] glob 64 F ∧ k16.right F = true := ⟨_, denK_ok (BD_ok [] 100000) globLt (by decide) g16 gcl 60 64, r16⟩
def kn17 : List (Nat × List Con) := [(8, [k0]), (39, [k1, k2, k5, k6, k9, k10, k13, k15]), (64, [k3, k4, k7, k8, k11, k12, k14, k16])]
theorem g17 : ∀ p ∈ kn17, Go.Og.Good Tryz.prog glob p.1 p.2 := by
  unfold kn17
  simp only [List.forall_mem_cons]
  exact ⟨(show Go.Og.Good _ _ 8 [k0] from by unfold Go.Og.Good; simp only [List.forall_mem_cons]; exact ⟨x0, fun _ h => nomatch h⟩), (show Go.Og.Good _ _ 39 [k1, k2, k5, k6, k9, k10, k13, k15] from by unfold Go.Og.Good; simp only [List.forall_mem_cons]; exact ⟨x1, x2, x5, x6, x9, x10, x13, x15, fun _ h => nomatch h⟩), (show Go.Og.Good _ _ 64 [k3, k4, k7, k8, k11, k12, k14, k16] from by unfold Go.Og.Good; simp only [List.forall_mem_cons]; exact ⟨x3, x4, x7, x8, x11, x12, x14, x16, fun _ h => nomatch h⟩), fun _ h => nomatch h⟩
theorem r17 : k17.right (denK (BD [] 100000) kn17 gcl 60 39) = true := by kernel_rfl
theorem x17 : ∃ F, SoundFn Tryz.prog [] glob 39 F ∧ k17.right F = true := ⟨_, denK_ok (BD_ok [] 100000) globLt (by decide) g17 gcl 60 39, r17⟩
end
end Go.Proofs.YthkkkmkcjgaghaaGreatDoor.auditRules
