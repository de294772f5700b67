/- What is known of calls whose arguments hold no address. Printed by a program; each is proved here. No condition. -/
import Derived.Test.YtpafblhkafcfmaaGreatDoorD
set_option linter.all false
set_option maxRecDepth 100000
set_option maxHeartbeats 0
namespace Go.Proofs.YtpafblhkafcfmaaGreatDoor.uperinGroups
open Go Go.Og
noncomputable section
def t0 : BS := ⟨147, 273837014200153412316888888990212940376476647910573911974112786035802515131704015902441500868249881108283782769379322771231092033668485615381880400288841620196774146685063784021989661102577492282339206376554884061774909775888082176904039097998575680537866471605819860578177792408420956348317170048929234002521046205966720593915705936520224865711902957645⟩
def t1 : BS := ⟨83, 20423697567192517809240295259938904437794754005995551713174354563332778189752168395854124233507746754796681342499881594283041075820211926963132556663497257407511126993131317963984917325184787110174797⟩
/-- ogham/oghamplay.Table -/
def k0 : Con := ⟨[.str t0], .tup [.agg [.str ⟨1, 77⟩, .sl 301 0 1 (.op 1), .sl 584 0 1 (.op 1), .sl 388 0 4 (.op 13)], .bool true],
  [(584, .cells [.int .i64 (Int.ofNat 0)]),
  (392, .cells [.str ⟨1, 97⟩, .int .i64 (Int.ofNat 1), .bool true, .bool false, .int .i64 (Int.ofNat 0), .int .i64 (Int.ofNat 0), .nils, .nils, .int .i64 (Int.ofNat 0), .nils, .int .i64 (Int.ofNat 1), .str ⟨1, 98⟩, .int .i64 (Int.ofNat 2), .bool true, .bool false, .int .i64 (Int.ofNat 0), .int .i64 (Int.ofNat 0), .nils, .nils, .int .i64 (Int.ofNat 0), .nils, .int .i64 (Int.ofNat 1), .str ⟨1, 99⟩, .int .i64 (Int.ofNat 3), .bool false, .bool true, .int .i64 (Int.ofNat 1), .int .i64 (Int.ofNat 0), .nils, .nils, .int .i64 (Int.ofNat 0), .nils, .int .i64 (Int.ofNat 1)]),
  (389, .cells [.int .i64 (Int.ofNat 2), .int .i64 (Int.ofNat 2)]),
  (388, .cells [.int .i64 (Int.ofNat 7), .sl 318 0 1 (.ex 1), .bool false, .bool false, .bool false, .bool false, .int .i64 (Int.ofNat 0), .int .i64 (Int.ofNat 0), .nils, .sl 392 0 3 (.op 11), .int .i64 (Int.ofNat 0), .bool true, .int .i64 (Int.ofNat 0), .int .i64 (Int.ofNat 1), .sl 349 0 1 (.ex 1), .bool false, .bool false, .bool false, .bool false, .int .i64 (Int.ofNat 0), .int .i64 (Int.ofNat 0), .nils, .nils, .int .i64 (Int.ofNat 0), .bool false, .int .i64 (Int.ofNat 0), .int .i64 (Int.ofNat 1), .sl 369 0 1 (.ex 1), .bool false, .bool false, .bool false, .bool false, .int .i64 (Int.ofNat 0), .int .i64 (Int.ofNat 0), .nils, .nils, .int .i64 (Int.ofNat 0), .bool false, .int .i64 (Int.ofNat 0), .int .i64 (Int.ofNat 1), .sl 389 0 1 (.ex 1), .bool false, .bool false, .bool false, .bool false, .int .i64 (Int.ofNat 0), .int .i64 (Int.ofNat 0), .nils, .nils, .int .i64 (Int.ofNat 0), .bool false, .int .i64 (Int.ofNat 0)]),
  (369, .cells [.int .i64 (Int.ofNat 2), .int .i64 (Int.ofNat 1)]),
  (349, .cells [.int .i64 (Int.ofNat 2), .int .i64 (Int.ofNat 0)]),
  (318, .cells [.int .i64 (Int.ofNat 0), .int .i64 (Int.ofNat 16)]),
  (301, .cells [.str ⟨1, 65⟩])], 497⟩
def kn0 : List (Nat × List Con) := []
theorem g0 : ∀ p ∈ kn0, Go.Og.Good Tryz.prog glob p.1 p.2 := fun _ h => nomatch h
theorem r0 : k0.right (denK (BD [] 100000) kn0 60 4) = true := by kernel_rfl
theorem x0 : ∃ F, SoundFn Tryz.prog [] glob 4 F ∧ k0.right F = true := ⟨_, denK_ok (BD_ok [] 100000) globLt (by decide) g0 60 4, r0⟩
/-- ogham/oghamplay.Table -/
def k1 : Con := ⟨[.str t1], .tup [.agg [.str ⟨1, 77⟩, .sl 234 0 1 (.op 1), .sl 341 0 1 (.op 1), .sl 301 0 3 (.op 13)], .bool true],
  [(341, .cells [.int .i64 (Int.ofNat 0)]),
  (303, .cells [.str ⟨1, 97⟩, .int .i64 (Int.ofNat 1), .bool false, .bool false, .int .i64 (Int.ofNat 0), .int .i64 (Int.ofNat 0), .nils, .nils, .int .i64 (Int.ofNat 0), .nils, .int .i64 (Int.ofNat 0), .str ⟨1, 98⟩, .int .i64 (Int.ofNat 2), .bool true, .bool false, .int .i64 (Int.ofNat 0), .int .i64 (Int.ofNat 0), .nils, .nils, .int .i64 (Int.ofNat 0), .nils, .int .i64 (Int.ofNat 0)]),
  (301, .cells [.int .i64 (Int.ofNat 7), .sl 251 0 1 (.ex 1), .bool false, .bool false, .bool false, .bool false, .int .i64 (Int.ofNat 0), .int .i64 (Int.ofNat 0), .nils, .sl 303 0 2 (.op 11), .int .i64 (Int.ofNat 2), .bool false, .int .i64 (Int.ofNat 0), .int .i64 (Int.ofNat 2), .sl 269 0 1 (.ex 1), .bool true, .bool true, .bool true, .bool false, .int .i64 (Int.ofNat 0), .int .i64 (Int.ofNat 7), .nils, .nils, .int .i64 (Int.ofNat 0), .bool false, .int .i64 (Int.ofNat 0), .int .i64 (Int.ofNat 1), .sl 289 0 1 (.ex 1), .bool false, .bool false, .bool false, .bool false, .int .i64 (Int.ofNat 0), .int .i64 (Int.ofNat 0), .nils, .nils, .int .i64 (Int.ofNat 0), .bool false, .int .i64 (Int.ofNat 0)]),
  (289, .cells [.int .i64 (Int.ofNat 0), .int .i64 (Int.ofNat 1)]),
  (269, .cells [.int .i64 (Int.ofNat 0), .int .i64 (Int.ofNat 2)]),
  (251, .cells [.int .i64 (Int.ofNat 0), .int .i64 (Int.ofNat 16)]),
  (234, .cells [.str ⟨1, 65⟩])], 254⟩
def kn1 : List (Nat × List Con) := [(4, [k0])]
theorem g1 : ∀ p ∈ kn1, Go.Og.Good Tryz.prog glob p.1 p.2 := by
  unfold kn1
  simp only [List.forall_mem_cons]
  exact ⟨(show Go.Og.Good _ _ 4 [k0] from by unfold Go.Og.Good; simp only [List.forall_mem_cons]; exact ⟨x0, fun _ h => nomatch h⟩), fun _ h => nomatch h⟩
theorem r1 : k1.right (denK (BD [] 100000) kn1 60 4) = true := by kernel_rfl
theorem x1 : ∃ F, SoundFn Tryz.prog [] glob 4 F ∧ k1.right F = true := ⟨_, denK_ok (BD_ok [] 100000) globLt (by decide) g1 60 4, r1⟩
/-- ogham/oghamlaw20.awake -/
def k2 : Con := ⟨[], .bool true,
  [], 668⟩
def kn2 : List (Nat × List Con) := [(4, [k0, k1])]
theorem g2 : ∀ p ∈ kn2, Go.Og.Good Tryz.prog glob p.1 p.2 := by
  unfold kn2
  simp only [List.forall_mem_cons]
  exact ⟨(show Go.Og.Good _ _ 4 [k0, k1] from by unfold Go.Og.Good; simp only [List.forall_mem_cons]; exact ⟨x0, x1, fun _ h => nomatch h⟩), fun _ h => nomatch h⟩
theorem r2 : k2.right (denK (BD [] 100000) kn2 60 9) = true := by kernel_rfl
theorem x2 : ∃ F, SoundFn Tryz.prog [] glob 9 F ∧ k2.right F = true := ⟨_, denK_ok (BD_ok [] 100000) globLt (by decide) g2 60 9, r2⟩
def kn : List (Nat × List Con) := [(4, [k0, k1]), (9, [k2])]
theorem kn_ok : ∀ p ∈ kn, Go.Og.Good Tryz.prog glob p.1 p.2 := by
  unfold kn
  simp only [List.forall_mem_cons]
  exact ⟨(show Go.Og.Good _ _ 4 [k0, k1] from by unfold Go.Og.Good; simp only [List.forall_mem_cons]; exact ⟨x0, x1, fun _ h => nomatch h⟩), (show Go.Og.Good _ _ 9 [k2] from by unfold Go.Og.Good; simp only [List.forall_mem_cons]; exact ⟨x2, fun _ h => nomatch h⟩), fun _ h => nomatch h⟩
theorem DK_ok (d f : Nat) : SoundFn Tryz.prog [] glob f (denK (BD [] 100000) kn d f) := denK_ok (BD_ok [] 100000) globLt (by decide) kn_ok d f
end
end Go.Proofs.YtpafblhkafcfmaaGreatDoor.uperinGroups
