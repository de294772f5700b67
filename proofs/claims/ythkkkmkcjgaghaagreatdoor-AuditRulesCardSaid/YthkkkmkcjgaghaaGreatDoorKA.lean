/- What is known of calls whose arguments hold no address. Printed by a program; each is proved here. No condition. -/
import Derived.Test.YthkkkmkcjgaghaaGreatDoorKA1
import Derived.Test.YthkkkmkcjgaghaaGreatDoorKA2
import Derived.Test.YthkkkmkcjgaghaaGreatDoorKA3
set_option linter.all false
set_option maxRecDepth 100000
set_option maxHeartbeats 0
namespace Go.Proofs.YthkkkmkcjgaghaaGreatDoor.auditRules
open Go Go.Og
noncomputable section
def kn : List (Nat × List Con) := [(8, [k0]), (39, [k1, k2, k5, k6, k9, k10, k13, k15, k17, k19, k21, k23, k25, k27, k29, k31, k33, k35, k37, k39]), (64, [k3, k4, k7, k8, k11, k12, k14, k16, k18, k20, k22, k24, k26, k28, k30, k32, k34, k36, k38, k40])]
theorem kn_ok : ∀ p ∈ kn, Go.Og.Good Tryz.prog glob p.1 p.2 := by
  unfold kn
  simp only [List.forall_mem_cons]
  exact ⟨(show Go.Og.Good _ _ 8 [k0] from by unfold Go.Og.Good; simp only [List.forall_mem_cons]; exact ⟨x0, fun _ h => nomatch h⟩), (show Go.Og.Good _ _ 39 [k1, k2, k5, k6, k9, k10, k13, k15, k17, k19, k21, k23, k25, k27, k29, k31, k33, k35, k37, k39] from by unfold Go.Og.Good; simp only [List.forall_mem_cons]; exact ⟨x1, x2, x5, x6, x9, x10, x13, x15, x17, x19, x21, x23, x25, x27, x29, x31, x33, x35, x37, x39, fun _ h => nomatch h⟩), (show Go.Og.Good _ _ 64 [k3, k4, k7, k8, k11, k12, k14, k16, k18, k20, k22, k24, k26, k28, k30, k32, k34, k36, k38, k40] from by unfold Go.Og.Good; simp only [List.forall_mem_cons]; exact ⟨x3, x4, x7, x8, x11, x12, x14, x16, x18, x20, x22, x24, x26, x28, x30, x32, x34, x36, x38, x40, fun _ h => nomatch h⟩), fun _ h => nomatch h⟩
theorem DK_ok (d f : Nat) : SoundFn Tryz.prog [] glob f (denK (BD [] 100000) kn gcl d f) := denK_ok (BD_ok [] 100000) globLt (by decide) kn_ok gcl d f
end
end Go.Proofs.YthkkkmkcjgaghaaGreatDoor.auditRules
