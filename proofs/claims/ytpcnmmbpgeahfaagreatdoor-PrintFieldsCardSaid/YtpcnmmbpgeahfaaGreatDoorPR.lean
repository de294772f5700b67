/- PrintFields answers true, whatever its arguments are. No condition. -/
import Derived.Test.YtpcnmmbpgeahfaaGreatDoorPC
set_option maxRecDepth 100000
set_option maxHeartbeats 0
set_option linter.all false
namespace Go.Proofs.YtpcnmmbpgeahfaaGreatDoor.printFields
open Go Go.Og
noncomputable section
theorem remU (a : Int) (m : Nat) (hm : 0 < m) (hs : m < 1000) : ∃ k : Nat, k < m ∧ wrapF .i64 (Int.tmod (wrapF .u64 a) (Int.ofNat m)) = Int.ofNat k := by
  rw [wrapF_eq .u64]
  have h : ∃ n : Nat, IntKind.wrap .u64 a = Int.ofNat n := by
    have : 0 ≤ IntKind.wrap .u64 a := by
      unfold IntKind.wrap; simp only [IntKind.signed, IntKind.bits]; simp; omega
    exact ⟨_, (Int.toNat_of_nonneg this).symm⟩
  obtain ⟨n, hn⟩ := h
  rw [hn]
  have hk := Nat.mod_lt n hm
  refine ⟨n % m, hk, ?_⟩
  show wrapF .i64 (Int.ofNat (n % m)) = _
  rw [wrapF_eq]
  refine wrap_in ?_
  simp only [inK, maxN, Nat.ble_eq]; omega
/-- The list of bools: nil, or so many. -/
inductive Grp : V → List (Nat × Blk) → Prop
  | nil : Grp .nils []
  | l0 (c : Nat) : Grp (.sl 50 0 0 (.ex c)) []
  | l1 (c : Nat) (b0 : Bool) : Grp (.sl 50 0 1 (.ex c)) [(50, .cells [.bool b0])]
  | l2 (c : Nat) (b0 b1 : Bool) : Grp (.sl 50 0 2 (.ex c)) [(50, .cells [.bool b0, .bool b1])]
  | l3 (c : Nat) (b0 b1 b2 : Bool) : Grp (.sl 50 0 3 (.ex c)) [(50, .cells [.bool b0, .bool b1, .bool b2])]
  | l4 (n c : Nat) (b0 b1 b2 b3 : Bool) (l : List V) : Grp (.sl 50 0 (Nat.add n 4) (.ex c)) [(50, .cells (.bool b0 :: .bool b1 :: .bool b2 :: .bool b3 :: l))]
theorem lawP {v : V} {E : List (Nat × Blk)} (h : Grp v E) (x0 x1 x3 : Int) : okB (F4 E DKp (drawW E DKp) 100000 [.int .i64 x0, .int .i64 x1, v, .int .i64 x3] ⟨100, []⟩) = true := by
  obtain ⟨r, hr, er⟩ := remU x0 5 (by decide) (by decide)
  obtain ⟨a, ha, ea⟩ := remU x1 5 (by decide) (by decide)
  obtain ⟨k, hk, ek⟩ := remU x3 3 (by decide) (by decide)
  rw [F4_eq, er, ea, ek]
  cases h with
  | nil => rw [A_nil _ _ r a k hr ha hk]; exact B_all _ _ r a k _ _ _ _ hr ha hk
  | l0 c => rw [A_l0 _ c _ _ r a k hr ha hk]; exact B_all _ _ r a k _ _ _ _ hr ha hk
  | l1 c b0 => rw [A_l1 b0 c _ _ r a k hr ha hk]; exact B_all _ _ r a k _ _ _ _ hr ha hk
  | l2 c b0 b1 => rw [A_l2 b0 b1 c _ _ r a k hr ha hk]; exact B_all _ _ r a k _ _ _ _ hr ha hk
  | l3 c b0 b1 b2 => rw [A_l3 b0 b1 b2 c _ _ r a k hr ha hk]; exact B_all _ _ r a k _ _ _ _ hr ha hk
  | l4 n c b0 b1 b2 b3 l => rw [A_l4 b0 b1 b2 b3 n c l _ _ r a k hr ha hk]; exact B_all _ _ r a k _ _ _ _ hr ha hk
theorem sound4 (E : List (Nat × Blk)) : SoundFn Tryz.prog E glob 4 (F4 E DKp (drawW E DKp) 100000) := SF4 E DKp (fun f => (DK_ok 60 f).ofNil E) 100000
end
end Go.Proofs.YtpcnmmbpgeahfaaGreatDoor.printFields
