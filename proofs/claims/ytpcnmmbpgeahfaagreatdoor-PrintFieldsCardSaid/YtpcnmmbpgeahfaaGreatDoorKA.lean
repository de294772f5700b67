/- What is known of calls whose arguments hold no address. Printed by a program; each is proved here. No condition. -/
import Derived.Test.YtpcnmmbpgeahfaaGreatDoorD
set_option linter.all false
set_option maxRecDepth 100000
set_option maxHeartbeats 0
namespace Go.Proofs.YtpcnmmbpgeahfaaGreatDoor.printFields
open Go Go.Og
noncomputable section
def gcl : List Nat := [8, 10, 9, 49, 43, 26, 29, 65]
def k0 : Con := ⟨[.int .u64 (Int.ofNat 0)], .str ⟨1, 48⟩,
  [], 1⟩
def k1 : Con := ⟨[.int .u64 (Int.ofNat 1)], .str ⟨1, 49⟩,
  [], 1⟩
def k2 : Con := ⟨[.int .u64 (Int.ofNat 2)], .str ⟨1, 50⟩,
  [], 1⟩
def k3 : Con := ⟨[.int .u64 (Int.ofNat 3)], .str ⟨1, 51⟩,
  [], 1⟩
def k4 : Con := ⟨[.str ⟨1, 77⟩], .bool false,
  [], 1⟩
def k5 : Con := ⟨[.str ⟨11, 100710650190388740279911748⟩], .bool true,
  [], 1⟩
def k6 : Con := ⟨[.str ⟨8, 6073459554577829193⟩], .bool true,
  [], 1⟩
def k7 : Con := ⟨[.str ⟨4, 1397178708⟩], .bool true,
  [], 1⟩
def k8 : Con := ⟨[.str ⟨5, 336236856642⟩], .bool true,
  [], 1⟩
def k9 : Con := ⟨[.str ⟨1, 65⟩], .bool false,
  [], 1⟩
def k10 : Con := ⟨[.str ⟨8, 4990918871747741011⟩], .bool true,
  [], 1⟩
def k11 : Con := ⟨[.str ⟨2, 12390⟩], .bool false,
  [], 1⟩
def k12 : Con := ⟨[.str ⟨4, 1280070990⟩], .bool true,
  [], 1⟩
def k13 : Con := ⟨[.str ⟨2, 12646⟩], .bool false,
  [], 1⟩
def k14 : Con := ⟨[.str ⟨2, 12902⟩], .bool false,
  [], 1⟩
def k15 : Con := ⟨[.str ⟨2, 13158⟩], .bool false,
  [], 1⟩
def k16 : Con := ⟨[.str ⟨2, 12391⟩], .bool false,
  [], 1⟩
def k17 : Con := ⟨[.str ⟨2, 12647⟩], .bool false,
  [], 1⟩
def k18 : Con := ⟨[.str ⟨2, 12903⟩], .bool false,
  [], 1⟩
def k19 : Con := ⟨[.str ⟨2, 13159⟩], .bool false,
  [], 1⟩
def k20 : Con := ⟨[.str ⟨3, 4476485⟩], .bool true,
  [], 1⟩
def k21 : Con := ⟨[], .bool true,
  [], 162⟩
def k22 : Con := ⟨[.str ⟨2, 12392⟩], .bool false,
  [], 1⟩
def k23 : Con := ⟨[.str ⟨7, 22026814072246082⟩], .bool true,
  [], 1⟩
def k24 : Con := ⟨[.str ⟨2, 12648⟩], .bool false,
  [], 1⟩
def k25 : Con := ⟨[.str ⟨2, 12904⟩], .bool false,
  [], 1⟩
def k26 : Con := ⟨[.str ⟨2, 13160⟩], .bool false,
  [], 1⟩
def k27 : Con := ⟨[.str ⟨3, 5522771⟩], .bool true,
  [], 1⟩
def k28 : Con := ⟨[.str ⟨6, 76155295057987⟩], .bool true,
  [], 1⟩
def kn0 : List (Nat × List Con) := []
theorem g0 : ∀ p ∈ kn0, Go.Og.Good Tryz.prog glob p.1 p.2 := fun _ h => by cases h
theorem r0 : k0.right (denK (BD [] 100000) kn0 gcl 60 9) = true := by kernel_rfl
theorem x0 : ∃ F, SoundFn Tryz.prog [] glob 9 F ∧ k0.right F = true := ⟨_, denK_ok (BD_ok [] 100000) globLt (by decide) g0 gcl 60 9, r0⟩
def kn1 : List (Nat × List Con) := [(9, [k0])]
theorem g1 : ∀ p ∈ kn1, Go.Og.Good Tryz.prog glob p.1 p.2 := by
  unfold kn1
  simp only [List.forall_mem_cons]
  exact ⟨(show Go.Og.Good _ _ 9 [k0] from by unfold Go.Og.Good; simp only [List.forall_mem_cons]; exact ⟨x0, fun _ h => by cases h⟩), fun _ h => by cases h⟩
theorem r1 : k1.right (denK (BD [] 100000) kn1 gcl 60 9) = true := by kernel_rfl
theorem x1 : ∃ F, SoundFn Tryz.prog [] glob 9 F ∧ k1.right F = true := ⟨_, denK_ok (BD_ok [] 100000) globLt (by decide) g1 gcl 60 9, r1⟩
def kn2 : List (Nat × List Con) := [(9, [k0, k1])]
theorem g2 : ∀ p ∈ kn2, Go.Og.Good Tryz.prog glob p.1 p.2 := by
  unfold kn2
  simp only [List.forall_mem_cons]
  exact ⟨(show Go.Og.Good _ _ 9 [k0, k1] from by unfold Go.Og.Good; simp only [List.forall_mem_cons]; exact ⟨x0, x1, fun _ h => by cases h⟩), fun _ h => by cases h⟩
theorem r2 : k2.right (denK (BD [] 100000) kn2 gcl 60 9) = true := by kernel_rfl
theorem x2 : ∃ F, SoundFn Tryz.prog [] glob 9 F ∧ k2.right F = true := ⟨_, denK_ok (BD_ok [] 100000) globLt (by decide) g2 gcl 60 9, r2⟩
def kn3 : List (Nat × List Con) := [(9, [k0, k1, k2])]
theorem g3 : ∀ p ∈ kn3, Go.Og.Good Tryz.prog glob p.1 p.2 := by
  unfold kn3
  simp only [List.forall_mem_cons]
  exact ⟨(show Go.Og.Good _ _ 9 [k0, k1, k2] from by unfold Go.Og.Good; simp only [List.forall_mem_cons]; exact ⟨x0, x1, x2, fun _ h => by cases h⟩), fun _ h => by cases h⟩
theorem r3 : k3.right (denK (BD [] 100000) kn3 gcl 60 9) = true := by kernel_rfl
theorem x3 : ∃ F, SoundFn Tryz.prog [] glob 9 F ∧ k3.right F = true := ⟨_, denK_ok (BD_ok [] 100000) globLt (by decide) g3 gcl 60 9, r3⟩
def kn4 : List (Nat × List Con) := [(9, [k0, k1, k2, k3])]
theorem g4 : ∀ p ∈ kn4, Go.Og.Good Tryz.prog glob p.1 p.2 := by
  unfold kn4
  simp only [List.forall_mem_cons]
  exact ⟨(show Go.Og.Good _ _ 9 [k0, k1, k2, k3] from by unfold Go.Og.Good; simp only [List.forall_mem_cons]; exact ⟨x0, x1, x2, x3, fun _ h => by cases h⟩), fun _ h => by cases h⟩
theorem r4 : k4.right (denK (BD [] 100000) kn4 gcl 60 44) = true := by kernel_rfl
theorem x4 : ∃ F, SoundFn Tryz.prog [] glob 44 F ∧ k4.right F = true := ⟨_, denK_ok (BD_ok [] 100000) globLt (by decide) g4 gcl 60 44, r4⟩
def kn5 : List (Nat × List Con) := [(9, [k0, k1, k2, k3]), (44, [k4])]
theorem g5 : ∀ p ∈ kn5, Go.Og.Good Tryz.prog glob p.1 p.2 := by
  unfold kn5
  simp only [List.forall_mem_cons]
  exact ⟨(show Go.Og.Good _ _ 9 [k0, k1, k2, k3] from by unfold Go.Og.Good; simp only [List.forall_mem_cons]; exact ⟨x0, x1, x2, x3, fun _ h => by cases h⟩), (show Go.Og.Good _ _ 44 [k4] from by unfold Go.Og.Good; simp only [List.forall_mem_cons]; exact ⟨x4, fun _ h => by cases h⟩), fun _ h => by cases h⟩
theorem r5 : k5.right (denK (BD [] 100000) kn5 gcl 60 44) = true := by kernel_rfl
theorem x5 : ∃ F, SoundFn Tryz.prog [] glob 44 F ∧ k5.right F = true := ⟨_, denK_ok (BD_ok [] 100000) globLt (by decide) g5 gcl 60 44, r5⟩
def kn6 : List (Nat × List Con) := [(9, [k0, k1, k2, k3]), (44, [k4, k5])]
theorem g6 : ∀ p ∈ kn6, Go.Og.Good Tryz.prog glob p.1 p.2 := by
  unfold kn6
  simp only [List.forall_mem_cons]
  exact ⟨(show Go.Og.Good _ _ 9 [k0, k1, k2, k3] from by unfold Go.Og.Good; simp only [List.forall_mem_cons]; exact ⟨x0, x1, x2, x3, fun _ h => by cases h⟩), (show Go.Og.Good _ _ 44 [k4, k5] from by unfold Go.Og.Good; simp only [List.forall_mem_cons]; exact ⟨x4, x5, fun _ h => by cases h⟩), fun _ h => by cases h⟩
theorem r6 : k6.right (denK (BD [] 100000) kn6 gcl 60 44) = true := by kernel_rfl
theorem x6 : ∃ F, SoundFn Tryz.prog [] glob 44 F ∧ k6.right F = true := ⟨_, denK_ok (BD_ok [] 100000) globLt (by decide) g6 gcl 60 44, r6⟩
def kn7 : List (Nat × List Con) := [(9, [k0, k1, k2, k3]), (44, [k4, k5, k6])]
theorem g7 : ∀ p ∈ kn7, Go.Og.Good Tryz.prog glob p.1 p.2 := by
  unfold kn7
  simp only [List.forall_mem_cons]
  exact ⟨(show Go.Og.Good _ _ 9 [k0, k1, k2, k3] from by unfold Go.Og.Good; simp only [List.forall_mem_cons]; exact ⟨x0, x1, x2, x3, fun _ h => by cases h⟩), (show Go.Og.Good _ _ 44 [k4, k5, k6] from by unfold Go.Og.Good; simp only [List.forall_mem_cons]; exact ⟨x4, x5, x6, fun _ h => by cases h⟩), fun _ h => by cases h⟩
theorem r7 : k7.right (denK (BD [] 100000) kn7 gcl 60 44) = true := by kernel_rfl
theorem x7 : ∃ F, SoundFn Tryz.prog [] glob 44 F ∧ k7.right F = true := ⟨_, denK_ok (BD_ok [] 100000) globLt (by decide) g7 gcl 60 44, r7⟩
def kn8 : List (Nat × List Con) := [(9, [k0, k1, k2, k3]), (44, [k4, k5, k6, k7])]
theorem g8 : ∀ p ∈ kn8, Go.Og.Good Tryz.prog glob p.1 p.2 := by
  unfold kn8
  simp only [List.forall_mem_cons]
  exact ⟨(show Go.Og.Good _ _ 9 [k0, k1, k2, k3] from by unfold Go.Og.Good; simp only [List.forall_mem_cons]; exact ⟨x0, x1, x2, x3, fun _ h => by cases h⟩), (show Go.Og.Good _ _ 44 [k4, k5, k6, k7] from by unfold Go.Og.Good; simp only [List.forall_mem_cons]; exact ⟨x4, x5, x6, x7, fun _ h => by cases h⟩), fun _ h => by cases h⟩
theorem r8 : k8.right (denK (BD [] 100000) kn8 gcl 60 44) = true := by kernel_rfl
theorem x8 : ∃ F, SoundFn Tryz.prog [] glob 44 F ∧ k8.right F = true := ⟨_, denK_ok (BD_ok [] 100000) globLt (by decide) g8 gcl 60 44, r8⟩
def kn9 : List (Nat × List Con) := [(9, [k0, k1, k2, k3]), (44, [k4, k5, k6, k7, k8])]
theorem g9 : ∀ p ∈ kn9, Go.Og.Good Tryz.prog glob p.1 p.2 := by
  unfold kn9
  simp only [List.forall_mem_cons]
  exact ⟨(show Go.Og.Good _ _ 9 [k0, k1, k2, k3] from by unfold Go.Og.Good; simp only [List.forall_mem_cons]; exact ⟨x0, x1, x2, x3, fun _ h => by cases h⟩), (show Go.Og.Good _ _ 44 [k4, k5, k6, k7, k8] from by unfold Go.Og.Good; simp only [List.forall_mem_cons]; exact ⟨x4, x5, x6, x7, x8, fun _ h => by cases h⟩), fun _ h => by cases h⟩
theorem r9 : k9.right (denK (BD [] 100000) kn9 gcl 60 44) = true := by kernel_rfl
theorem x9 : ∃ F, SoundFn Tryz.prog [] glob 44 F ∧ k9.right F = true := ⟨_, denK_ok (BD_ok [] 100000) globLt (by decide) g9 gcl 60 44, r9⟩
def kn10 : List (Nat × List Con) := [(9, [k0, k1, k2, k3]), (44, [k4, k5, k6, k7, k8, k9])]
theorem g10 : ∀ p ∈ kn10, Go.Og.Good Tryz.prog glob p.1 p.2 := by
  unfold kn10
  simp only [List.forall_mem_cons]
  exact ⟨(show Go.Og.Good _ _ 9 [k0, k1, k2, k3] from by unfold Go.Og.Good; simp only [List.forall_mem_cons]; exact ⟨x0, x1, x2, x3, fun _ h => by cases h⟩), (show Go.Og.Good _ _ 44 [k4, k5, k6, k7, k8, k9] from by unfold Go.Og.Good; simp only [List.forall_mem_cons]; exact ⟨x4, x5, x6, x7, x8, x9, fun _ h => by cases h⟩), fun _ h => by cases h⟩
theorem r10 : k10.right (denK (BD [] 100000) kn10 gcl 60 44) = true := by kernel_rfl
theorem x10 : ∃ F, SoundFn Tryz.prog [] glob 44 F ∧ k10.right F = true := ⟨_, denK_ok (BD_ok [] 100000) globLt (by decide) g10 gcl 60 44, r10⟩
def kn11 : List (Nat × List Con) := [(9, [k0, k1, k2, k3]), (44, [k4, k5, k6, k7, k8, k9, k10])]
theorem g11 : ∀ p ∈ kn11, Go.Og.Good Tryz.prog glob p.1 p.2 := by
  unfold kn11
  simp only [List.forall_mem_cons]
  exact ⟨(show Go.Og.Good _ _ 9 [k0, k1, k2, k3] from by unfold Go.Og.Good; simp only [List.forall_mem_cons]; exact ⟨x0, x1, x2, x3, fun _ h => by cases h⟩), (show Go.Og.Good _ _ 44 [k4, k5, k6, k7, k8, k9, k10] from by unfold Go.Og.Good; simp only [List.forall_mem_cons]; exact ⟨x4, x5, x6, x7, x8, x9, x10, fun _ h => by cases h⟩), fun _ h => by cases h⟩
theorem r11 : k11.right (denK (BD [] 100000) kn11 gcl 60 44) = true := by kernel_rfl
theorem x11 : ∃ F, SoundFn Tryz.prog [] glob 44 F ∧ k11.right F = true := ⟨_, denK_ok (BD_ok [] 100000) globLt (by decide) g11 gcl 60 44, r11⟩
def kn12 : List (Nat × List Con) := [(9, [k0, k1, k2, k3]), (44, [k4, k5, k6, k7, k8, k9, k10, k11])]
theorem g12 : ∀ p ∈ kn12, Go.Og.Good Tryz.prog glob p.1 p.2 := by
  unfold kn12
  simp only [List.forall_mem_cons]
  exact ⟨(show Go.Og.Good _ _ 9 [k0, k1, k2, k3] from by unfold Go.Og.Good; simp only [List.forall_mem_cons]; exact ⟨x0, x1, x2, x3, fun _ h => by cases h⟩), (show Go.Og.Good _ _ 44 [k4, k5, k6, k7, k8, k9, k10, k11] from by unfold Go.Og.Good; simp only [List.forall_mem_cons]; exact ⟨x4, x5, x6, x7, x8, x9, x10, x11, fun _ h => by cases h⟩), fun _ h => by cases h⟩
theorem r12 : k12.right (denK (BD [] 100000) kn12 gcl 60 44) = true := by kernel_rfl
theorem x12 : ∃ F, SoundFn Tryz.prog [] glob 44 F ∧ k12.right F = true := ⟨_, denK_ok (BD_ok [] 100000) globLt (by decide) g12 gcl 60 44, r12⟩
def kn13 : List (Nat × List Con) := [(9, [k0, k1, k2, k3]), (44, [k4, k5, k6, k7, k8, k9, k10, k11, k12])]
theorem g13 : ∀ p ∈ kn13, Go.Og.Good Tryz.prog glob p.1 p.2 := by
  unfold kn13
  simp only [List.forall_mem_cons]
  exact ⟨(show Go.Og.Good _ _ 9 [k0, k1, k2, k3] from by unfold Go.Og.Good; simp only [List.forall_mem_cons]; exact ⟨x0, x1, x2, x3, fun _ h => by cases h⟩), (show Go.Og.Good _ _ 44 [k4, k5, k6, k7, k8, k9, k10, k11, k12] from by unfold Go.Og.Good; simp only [List.forall_mem_cons]; exact ⟨x4, x5, x6, x7, x8, x9, x10, x11, x12, fun _ h => by cases h⟩), fun _ h => by cases h⟩
theorem r13 : k13.right (denK (BD [] 100000) kn13 gcl 60 44) = true := by kernel_rfl
theorem x13 : ∃ F, SoundFn Tryz.prog [] glob 44 F ∧ k13.right F = true := ⟨_, denK_ok (BD_ok [] 100000) globLt (by decide) g13 gcl 60 44, r13⟩
def kn14 : List (Nat × List Con) := [(9, [k0, k1, k2, k3]), (44, [k4, k5, k6, k7, k8, k9, k10, k11, k12, k13])]
theorem g14 : ∀ p ∈ kn14, Go.Og.Good Tryz.prog glob p.1 p.2 := by
  unfold kn14
  simp only [List.forall_mem_cons]
  exact ⟨(show Go.Og.Good _ _ 9 [k0, k1, k2, k3] from by unfold Go.Og.Good; simp only [List.forall_mem_cons]; exact ⟨x0, x1, x2, x3, fun _ h => by cases h⟩), (show Go.Og.Good _ _ 44 [k4, k5, k6, k7, k8, k9, k10, k11, k12, k13] from by unfold Go.Og.Good; simp only [List.forall_mem_cons]; exact ⟨x4, x5, x6, x7, x8, x9, x10, x11, x12, x13, fun _ h => by cases h⟩), fun _ h => by cases h⟩
theorem r14 : k14.right (denK (BD [] 100000) kn14 gcl 60 44) = true := by kernel_rfl
theorem x14 : ∃ F, SoundFn Tryz.prog [] glob 44 F ∧ k14.right F = true := ⟨_, denK_ok (BD_ok [] 100000) globLt (by decide) g14 gcl 60 44, r14⟩
def kn15 : List (Nat × List Con) := [(9, [k0, k1, k2, k3]), (44, [k4, k5, k6, k7, k8, k9, k10, k11, k12, k13, k14])]
theorem g15 : ∀ p ∈ kn15, Go.Og.Good Tryz.prog glob p.1 p.2 := by
  unfold kn15
  simp only [List.forall_mem_cons]
  exact ⟨(show Go.Og.Good _ _ 9 [k0, k1, k2, k3] from by unfold Go.Og.Good; simp only [List.forall_mem_cons]; exact ⟨x0, x1, x2, x3, fun _ h => by cases h⟩), (show Go.Og.Good _ _ 44 [k4, k5, k6, k7, k8, k9, k10, k11, k12, k13, k14] from by unfold Go.Og.Good; simp only [List.forall_mem_cons]; exact ⟨x4, x5, x6, x7, x8, x9, x10, x11, x12, x13, x14, fun _ h => by cases h⟩), fun _ h => by cases h⟩
theorem r15 : k15.right (denK (BD [] 100000) kn15 gcl 60 44) = true := by kernel_rfl
theorem x15 : ∃ F, SoundFn Tryz.prog [] glob 44 F ∧ k15.right F = true := ⟨_, denK_ok (BD_ok [] 100000) globLt (by decide) g15 gcl 60 44, r15⟩
def kn16 : List (Nat × List Con) := [(9, [k0, k1, k2, k3]), (44, [k4, k5, k6, k7, k8, k9, k10, k11, k12, k13, k14, k15])]
theorem g16 : ∀ p ∈ kn16, Go.Og.Good Tryz.prog glob p.1 p.2 := by
  unfold kn16
  simp only [List.forall_mem_cons]
  exact ⟨(show Go.Og.Good _ _ 9 [k0, k1, k2, k3] from by unfold Go.Og.Good; simp only [List.forall_mem_cons]; exact ⟨x0, x1, x2, x3, fun _ h => by cases h⟩), (show Go.Og.Good _ _ 44 [k4, k5, k6, k7, k8, k9, k10, k11, k12, k13, k14, k15] from by unfold Go.Og.Good; simp only [List.forall_mem_cons]; exact ⟨x4, x5, x6, x7, x8, x9, x10, x11, x12, x13, x14, x15, fun _ h => by cases h⟩), fun _ h => by cases h⟩
theorem r16 : k16.right (denK (BD [] 100000) kn16 gcl 60 44) = true := by kernel_rfl
theorem x16 : ∃ F, SoundFn Tryz.prog [] glob 44 F ∧ k16.right F = true := ⟨_, denK_ok (BD_ok [] 100000) globLt (by decide) g16 gcl 60 44, r16⟩
def kn17 : List (Nat × List Con) := [(9, [k0, k1, k2, k3]), (44, [k4, k5, k6, k7, k8, k9, k10, k11, k12, k13, k14, k15, k16])]
theorem g17 : ∀ p ∈ kn17, Go.Og.Good Tryz.prog glob p.1 p.2 := by
  unfold kn17
  simp only [List.forall_mem_cons]
  exact ⟨(show Go.Og.Good _ _ 9 [k0, k1, k2, k3] from by unfold Go.Og.Good; simp only [List.forall_mem_cons]; exact ⟨x0, x1, x2, x3, fun _ h => by cases h⟩), (show Go.Og.Good _ _ 44 [k4, k5, k6, k7, k8, k9, k10, k11, k12, k13, k14, k15, k16] from by unfold Go.Og.Good; simp only [List.forall_mem_cons]; exact ⟨x4, x5, x6, x7, x8, x9, x10, x11, x12, x13, x14, x15, x16, fun _ h => by cases h⟩), fun _ h => by cases h⟩
theorem r17 : k17.right (denK (BD [] 100000) kn17 gcl 60 44) = true := by kernel_rfl
theorem x17 : ∃ F, SoundFn Tryz.prog [] glob 44 F ∧ k17.right F = true := ⟨_, denK_ok (BD_ok [] 100000) globLt (by decide) g17 gcl 60 44, r17⟩
def kn18 : List (Nat × List Con) := [(9, [k0, k1, k2, k3]), (44, [k4, k5, k6, k7, k8, k9, k10, k11, k12, k13, k14, k15, k16, k17])]
theorem g18 : ∀ p ∈ kn18, Go.Og.Good Tryz.prog glob p.1 p.2 := by
  unfold kn18
  simp only [List.forall_mem_cons]
  exact ⟨(show Go.Og.Good _ _ 9 [k0, k1, k2, k3] from by unfold Go.Og.Good; simp only [List.forall_mem_cons]; exact ⟨x0, x1, x2, x3, fun _ h => by cases h⟩), (show Go.Og.Good _ _ 44 [k4, k5, k6, k7, k8, k9, k10, k11, k12, k13, k14, k15, k16, k17] from by unfold Go.Og.Good; simp only [List.forall_mem_cons]; exact ⟨x4, x5, x6, x7, x8, x9, x10, x11, x12, x13, x14, x15, x16, x17, fun _ h => by cases h⟩), fun _ h => by cases h⟩
theorem r18 : k18.right (denK (BD [] 100000) kn18 gcl 60 44) = true := by kernel_rfl
theorem x18 : ∃ F, SoundFn Tryz.prog [] glob 44 F ∧ k18.right F = true := ⟨_, denK_ok (BD_ok [] 100000) globLt (by decide) g18 gcl 60 44, r18⟩
def kn19 : List (Nat × List Con) := [(9, [k0, k1, k2, k3]), (44, [k4, k5, k6, k7, k8, k9, k10, k11, k12, k13, k14, k15, k16, k17, k18])]
theorem g19 : ∀ p ∈ kn19, Go.Og.Good Tryz.prog glob p.1 p.2 := by
  unfold kn19
  simp only [List.forall_mem_cons]
  exact ⟨(show Go.Og.Good _ _ 9 [k0, k1, k2, k3] from by unfold Go.Og.Good; simp only [List.forall_mem_cons]; exact ⟨x0, x1, x2, x3, fun _ h => by cases h⟩), (show Go.Og.Good _ _ 44 [k4, k5, k6, k7, k8, k9, k10, k11, k12, k13, k14, k15, k16, k17, k18] from by unfold Go.Og.Good; simp only [List.forall_mem_cons]; exact ⟨x4, x5, x6, x7, x8, x9, x10, x11, x12, x13, x14, x15, x16, x17, x18, fun _ h => by cases h⟩), fun _ h => by cases h⟩
theorem r19 : k19.right (denK (BD [] 100000) kn19 gcl 60 44) = true := by kernel_rfl
theorem x19 : ∃ F, SoundFn Tryz.prog [] glob 44 F ∧ k19.right F = true := ⟨_, denK_ok (BD_ok [] 100000) globLt (by decide) g19 gcl 60 44, r19⟩
def kn20 : List (Nat × List Con) := [(9, [k0, k1, k2, k3]), (44, [k4, k5, k6, k7, k8, k9, k10, k11, k12, k13, k14, k15, k16, k17, k18, k19])]
theorem g20 : ∀ p ∈ kn20, Go.Og.Good Tryz.prog glob p.1 p.2 := by
  unfold kn20
  simp only [List.forall_mem_cons]
  exact ⟨(show Go.Og.Good _ _ 9 [k0, k1, k2, k3] from by unfold Go.Og.Good; simp only [List.forall_mem_cons]; exact ⟨x0, x1, x2, x3, fun _ h => by cases h⟩), (show Go.Og.Good _ _ 44 [k4, k5, k6, k7, k8, k9, k10, k11, k12, k13, k14, k15, k16, k17, k18, k19] from by unfold Go.Og.Good; simp only [List.forall_mem_cons]; exact ⟨x4, x5, x6, x7, x8, x9, x10, x11, x12, x13, x14, x15, x16, x17, x18, x19, fun _ h => by cases h⟩), fun _ h => by cases h⟩
theorem r20 : k20.right (denK (BD [] 100000) kn20 gcl 60 44) = true := by kernel_rfl
theorem x20 : ∃ F, SoundFn Tryz.prog [] glob 44 F ∧ k20.right F = true := ⟨_, denK_ok (BD_ok [] 100000) globLt (by decide) g20 gcl 60 44, r20⟩
def kn21 : List (Nat × List Con) := [(9, [k0, k1, k2, k3]), (44, [k4, k5, k6, k7, k8, k9, k10, k11, k12, k13, k14, k15, k16, k17, k18, k19, k20])]
theorem g21 : ∀ p ∈ kn21, Go.Og.Good Tryz.prog glob p.1 p.2 := by
  unfold kn21
  simp only [List.forall_mem_cons]
  exact ⟨(show Go.Og.Good _ _ 9 [k0, k1, k2, k3] from by unfold Go.Og.Good; simp only [List.forall_mem_cons]; exact ⟨x0, x1, x2, x3, fun _ h => by cases h⟩), (show Go.Og.Good _ _ 44 [k4, k5, k6, k7, k8, k9, k10, k11, k12, k13, k14, k15, k16, k17, k18, k19, k20] from by unfold Go.Og.Good; simp only [List.forall_mem_cons]; exact ⟨x4, x5, x6, x7, x8, x9, x10, x11, x12, x13, x14, x15, x16, x17, x18, x19, x20, fun _ h => by cases h⟩), fun _ h => by cases h⟩
theorem r21 : k21.right (denK (BD [] 100000) kn21 gcl 60 7) = true := by kernel_rfl
theorem x21 : ∃ F, SoundFn Tryz.prog [] glob 7 F ∧ k21.right F = true := ⟨_, denK_ok (BD_ok [] 100000) globLt (by decide) g21 gcl 60 7, r21⟩
def kn22 : List (Nat × List Con) := [(9, [k0, k1, k2, k3]), (44, [k4, k5, k6, k7, k8, k9, k10, k11, k12, k13, k14, k15, k16, k17, k18, k19, k20]), (7, [k21])]
theorem g22 : ∀ p ∈ kn22, Go.Og.Good Tryz.prog glob p.1 p.2 := by
  unfold kn22
  simp only [List.forall_mem_cons]
  exact ⟨(show Go.Og.Good _ _ 9 [k0, k1, k2, k3] from by unfold Go.Og.Good; simp only [List.forall_mem_cons]; exact ⟨x0, x1, x2, x3, fun _ h => by cases h⟩), (show Go.Og.Good _ _ 44 [k4, k5, k6, k7, k8, k9, k10, k11, k12, k13, k14, k15, k16, k17, k18, k19, k20] from by unfold Go.Og.Good; simp only [List.forall_mem_cons]; exact ⟨x4, x5, x6, x7, x8, x9, x10, x11, x12, x13, x14, x15, x16, x17, x18, x19, x20, fun _ h => by cases h⟩), (show Go.Og.Good _ _ 7 [k21] from by unfold Go.Og.Good; simp only [List.forall_mem_cons]; exact ⟨x21, fun _ h => by cases h⟩), fun _ h => by cases h⟩
theorem r22 : k22.right (denK (BD [] 100000) kn22 gcl 60 44) = true := by kernel_rfl
theorem x22 : ∃ F, SoundFn Tryz.prog [] glob 44 F ∧ k22.right F = true := ⟨_, denK_ok (BD_ok [] 100000) globLt (by decide) g22 gcl 60 44, r22⟩
def kn23 : List (Nat × List Con) := [(9, [k0, k1, k2, k3]), (44, [k4, k5, k6, k7, k8, k9, k10, k11, k12, k13, k14, k15, k16, k17, k18, k19, k20, k22]), (7, [k21])]
theorem g23 : ∀ p ∈ kn23, Go.Og.Good Tryz.prog glob p.1 p.2 := by
  unfold kn23
  simp only [List.forall_mem_cons]
  exact ⟨(show Go.Og.Good _ _ 9 [k0, k1, k2, k3] from by unfold Go.Og.Good; simp only [List.forall_mem_cons]; exact ⟨x0, x1, x2, x3, fun _ h => by cases h⟩), (show Go.Og.Good _ _ 44 [k4, k5, k6, k7, k8, k9, k10, k11, k12, k13, k14, k15, k16, k17, k18, k19, k20, k22] from by unfold Go.Og.Good; simp only [List.forall_mem_cons]; exact ⟨x4, x5, x6, x7, x8, x9, x10, x11, x12, x13, x14, x15, x16, x17, x18, x19, x20, x22, fun _ h => by cases h⟩), (show Go.Og.Good _ _ 7 [k21] from by unfold Go.Og.Good; simp only [List.forall_mem_cons]; exact ⟨x21, fun _ h => by cases h⟩), fun _ h => by cases h⟩
theorem r23 : k23.right (denK (BD [] 100000) kn23 gcl 60 44) = true := by kernel_rfl
theorem x23 : ∃ F, SoundFn Tryz.prog [] glob 44 F ∧ k23.right F = true := ⟨_, denK_ok (BD_ok [] 100000) globLt (by decide) g23 gcl 60 44, r23⟩
def kn24 : List (Nat × List Con) := [(9, [k0, k1, k2, k3]), (44, [k4, k5, k6, k7, k8, k9, k10, k11, k12, k13, k14, k15, k16, k17, k18, k19, k20, k22, k23]), (7, [k21])]
theorem g24 : ∀ p ∈ kn24, Go.Og.Good Tryz.prog glob p.1 p.2 := by
  unfold kn24
  simp only [List.forall_mem_cons]
  exact ⟨(show Go.Og.Good _ _ 9 [k0, k1, k2, k3] from by unfold Go.Og.Good; simp only [List.forall_mem_cons]; exact ⟨x0, x1, x2, x3, fun _ h => by cases h⟩), (show Go.Og.Good _ _ 44 [k4, k5, k6, k7, k8, k9, k10, k11, k12, k13, k14, k15, k16, k17, k18, k19, k20, k22, k23] from by unfold Go.Og.Good; simp only [List.forall_mem_cons]; exact ⟨x4, x5, x6, x7, x8, x9, x10, x11, x12, x13, x14, x15, x16, x17, x18, x19, x20, x22, x23, fun _ h => by cases h⟩), (show Go.Og.Good _ _ 7 [k21] from by unfold Go.Og.Good; simp only [List.forall_mem_cons]; exact ⟨x21, fun _ h => by cases h⟩), fun _ h => by cases h⟩
theorem r24 : k24.right (denK (BD [] 100000) kn24 gcl 60 44) = true := by kernel_rfl
theorem x24 : ∃ F, SoundFn Tryz.prog [] glob 44 F ∧ k24.right F = true := ⟨_, denK_ok (BD_ok [] 100000) globLt (by decide) g24 gcl 60 44, r24⟩
def kn25 : List (Nat × List Con) := [(9, [k0, k1, k2, k3]), (44, [k4, k5, k6, k7, k8, k9, k10, k11, k12, k13, k14, k15, k16, k17, k18, k19, k20, k22, k23, k24]), (7, [k21])]
theorem g25 : ∀ p ∈ kn25, Go.Og.Good Tryz.prog glob p.1 p.2 := by
  unfold kn25
  simp only [List.forall_mem_cons]
  exact ⟨(show Go.Og.Good _ _ 9 [k0, k1, k2, k3] from by unfold Go.Og.Good; simp only [List.forall_mem_cons]; exact ⟨x0, x1, x2, x3, fun _ h => by cases h⟩), (show Go.Og.Good _ _ 44 [k4, k5, k6, k7, k8, k9, k10, k11, k12, k13, k14, k15, k16, k17, k18, k19, k20, k22, k23, k24] from by unfold Go.Og.Good; simp only [List.forall_mem_cons]; exact ⟨x4, x5, x6, x7, x8, x9, x10, x11, x12, x13, x14, x15, x16, x17, x18, x19, x20, x22, x23, x24, fun _ h => by cases h⟩), (show Go.Og.Good _ _ 7 [k21] from by unfold Go.Og.Good; simp only [List.forall_mem_cons]; exact ⟨x21, fun _ h => by cases h⟩), fun _ h => by cases h⟩
theorem r25 : k25.right (denK (BD [] 100000) kn25 gcl 60 44) = true := by kernel_rfl
theorem x25 : ∃ F, SoundFn Tryz.prog [] glob 44 F ∧ k25.right F = true := ⟨_, denK_ok (BD_ok [] 100000) globLt (by decide) g25 gcl 60 44, r25⟩
def kn26 : List (Nat × List Con) := [(9, [k0, k1, k2, k3]), (44, [k4, k5, k6, k7, k8, k9, k10, k11, k12, k13, k14, k15, k16, k17, k18, k19, k20, k22, k23, k24, k25]), (7, [k21])]
theorem g26 : ∀ p ∈ kn26, Go.Og.Good Tryz.prog glob p.1 p.2 := by
  unfold kn26
  simp only [List.forall_mem_cons]
  exact ⟨(show Go.Og.Good _ _ 9 [k0, k1, k2, k3] from by unfold Go.Og.Good; simp only [List.forall_mem_cons]; exact ⟨x0, x1, x2, x3, fun _ h => by cases h⟩), (show Go.Og.Good _ _ 44 [k4, k5, k6, k7, k8, k9, k10, k11, k12, k13, k14, k15, k16, k17, k18, k19, k20, k22, k23, k24, k25] from by unfold Go.Og.Good; simp only [List.forall_mem_cons]; exact ⟨x4, x5, x6, x7, x8, x9, x10, x11, x12, x13, x14, x15, x16, x17, x18, x19, x20, x22, x23, x24, x25, fun _ h => by cases h⟩), (show Go.Og.Good _ _ 7 [k21] from by unfold Go.Og.Good; simp only [List.forall_mem_cons]; exact ⟨x21, fun _ h => by cases h⟩), fun _ h => by cases h⟩
theorem r26 : k26.right (denK (BD [] 100000) kn26 gcl 60 44) = true := by kernel_rfl
theorem x26 : ∃ F, SoundFn Tryz.prog [] glob 44 F ∧ k26.right F = true := ⟨_, denK_ok (BD_ok [] 100000) globLt (by decide) g26 gcl 60 44, r26⟩
def kn27 : List (Nat × List Con) := [(9, [k0, k1, k2, k3]), (44, [k4, k5, k6, k7, k8, k9, k10, k11, k12, k13, k14, k15, k16, k17, k18, k19, k20, k22, k23, k24, k25, k26]), (7, [k21])]
theorem g27 : ∀ p ∈ kn27, Go.Og.Good Tryz.prog glob p.1 p.2 := by
  unfold kn27
  simp only [List.forall_mem_cons]
  exact ⟨(show Go.Og.Good _ _ 9 [k0, k1, k2, k3] from by unfold Go.Og.Good; simp only [List.forall_mem_cons]; exact ⟨x0, x1, x2, x3, fun _ h => by cases h⟩), (show Go.Og.Good _ _ 44 [k4, k5, k6, k7, k8, k9, k10, k11, k12, k13, k14, k15, k16, k17, k18, k19, k20, k22, k23, k24, k25, k26] from by unfold Go.Og.Good; simp only [List.forall_mem_cons]; exact ⟨x4, x5, x6, x7, x8, x9, x10, x11, x12, x13, x14, x15, x16, x17, x18, x19, x20, x22, x23, x24, x25, x26, fun _ h => by cases h⟩), (show Go.Og.Good _ _ 7 [k21] from by unfold Go.Og.Good; simp only [List.forall_mem_cons]; exact ⟨x21, fun _ h => by cases h⟩), fun _ h => by cases h⟩
theorem r27 : k27.right (denK (BD [] 100000) kn27 gcl 60 44) = true := by kernel_rfl
theorem x27 : ∃ F, SoundFn Tryz.prog [] glob 44 F ∧ k27.right F = true := ⟨_, denK_ok (BD_ok [] 100000) globLt (by decide) g27 gcl 60 44, r27⟩
def kn28 : List (Nat × List Con) := [(9, [k0, k1, k2, k3]), (44, [k4, k5, k6, k7, k8, k9, k10, k11, k12, k13, k14, k15, k16, k17, k18, k19, k20, k22, k23, k24, k25, k26, k27]), (7, [k21])]
theorem g28 : ∀ p ∈ kn28, Go.Og.Good Tryz.prog glob p.1 p.2 := by
  unfold kn28
  simp only [List.forall_mem_cons]
  exact ⟨(show Go.Og.Good _ _ 9 [k0, k1, k2, k3] from by unfold Go.Og.Good; simp only [List.forall_mem_cons]; exact ⟨x0, x1, x2, x3, fun _ h => by cases h⟩), (show Go.Og.Good _ _ 44 [k4, k5, k6, k7, k8, k9, k10, k11, k12, k13, k14, k15, k16, k17, k18, k19, k20, k22, k23, k24, k25, k26, k27] from by unfold Go.Og.Good; simp only [List.forall_mem_cons]; exact ⟨x4, x5, x6, x7, x8, x9, x10, x11, x12, x13, x14, x15, x16, x17, x18, x19, x20, x22, x23, x24, x25, x26, x27, fun _ h => by cases h⟩), (show Go.Og.Good _ _ 7 [k21] from by unfold Go.Og.Good; simp only [List.forall_mem_cons]; exact ⟨x21, fun _ h => by cases h⟩), fun _ h => by cases h⟩
theorem r28 : k28.right (denK (BD [] 100000) kn28 gcl 60 44) = true := by kernel_rfl
theorem x28 : ∃ F, SoundFn Tryz.prog [] glob 44 F ∧ k28.right F = true := ⟨_, denK_ok (BD_ok [] 100000) globLt (by decide) g28 gcl 60 44, r28⟩
def kn : List (Nat × List Con) := [(9, [k0, k1, k2, k3]), (44, [k4, k5, k6, k7, k8, k9, k10, k11, k12, k13, k14, k15, k16, k17, k18, k19, k20, k22, k23, k24, k25, k26, k27, k28]), (7, [k21])]
theorem kn_ok : ∀ p ∈ kn, Go.Og.Good Tryz.prog glob p.1 p.2 := by
  unfold kn
  simp only [List.forall_mem_cons]
  exact ⟨(show Go.Og.Good _ _ 9 [k0, k1, k2, k3] from by unfold Go.Og.Good; simp only [List.forall_mem_cons]; exact ⟨x0, x1, x2, x3, fun _ h => by cases h⟩), (show Go.Og.Good _ _ 44 [k4, k5, k6, k7, k8, k9, k10, k11, k12, k13, k14, k15, k16, k17, k18, k19, k20, k22, k23, k24, k25, k26, k27, k28] from by unfold Go.Og.Good; simp only [List.forall_mem_cons]; exact ⟨x4, x5, x6, x7, x8, x9, x10, x11, x12, x13, x14, x15, x16, x17, x18, x19, x20, x22, x23, x24, x25, x26, x27, x28, fun _ h => by cases h⟩), (show Go.Og.Good _ _ 7 [k21] from by unfold Go.Og.Good; simp only [List.forall_mem_cons]; exact ⟨x21, fun _ h => by cases h⟩), fun _ h => by cases h⟩
theorem DK_ok (d f : Nat) : SoundFn Tryz.prog [] glob f (denK (BD [] 100000) kn gcl d f) := denK_ok (BD_ok [] 100000) globLt (by decide) kn_ok gcl d f
end
end Go.Proofs.YtpcnmmbpgeahfaaGreatDoor.printFields
