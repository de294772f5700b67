/- oghamlaw22.CrossUnknown answers true for every input: the tied card. No condition beyond the row's own. -/
import Derived.Test.YtmgbgifepccgpaaGreatDoorRC0
import Derived.Test.YtmgbgifepccgpaaGreatDoorRC1
import Derived.Test.YtmgbgifepccgpaaGreatDoorRC2
import Derived.Test.YtmgbgifepccgpaaGreatDoorRC3
import Derived.Test.YtmgbgifepccgpaaGreatDoorRC4
import Derived.Test.YtmgbgifepccgpaaGreatDoorRC5
import Derived.Test.YtmgbgifepccgpaaGreatDoorCards
import Derived.Test.YtmgbgifepccgpaaGreatDoorTie
import Derived.WalkKit
import Derived.ProofKit
import Derived.OpenShut
import Derived.ChangeMaps5
import Derived.LaidMore
import Derived.Lay
import Derived.SevenTiedAt
import Derived.Stop.Joined
set_option maxRecDepth 100000
set_option maxHeartbeats 0
set_option linter.all false
namespace Go.Proofs.YtmgbgifepccgpaaGreatDoor.crossUnknown
open Go Go.Og Go.ChangeShapes Go.WideShapes Go.ChangeAt Go.RowKit

/-! ### what the evaluator answers -/
theorem remU (a : Int) (m : Nat) (hm : 0 < m) (hs : m < 1000) : ∃ k : Nat, k < m ∧ Int.tmod (wrapF .u64 a) (Int.ofNat m) = Int.ofNat k := by
  rw [wrapF_eq]
  have h : ∃ n : Nat, IntKind.wrap .u64 a = Int.ofNat n := by
    have : 0 ≤ IntKind.wrap .u64 a := by
      unfold IntKind.wrap; simp only [IntKind.signed, IntKind.bits]; simp; omega
    exact ⟨_, (Int.toNat_of_nonneg this).symm⟩
  obtain ⟨n, hn⟩ := h
  rw [hn]
  exact ⟨n % m, Nat.mod_lt _ hm, rfl⟩
theorem wrapS (k : Nat) (h : k < 1000) : wrapF .i64 (Int.ofNat k) = Int.ofNat k := by
  rw [wrapF_eq]
  refine wrap_in ?_
  simp only [inK, maxN, Nat.ble_eq]; omega
theorem addS (c k : Nat) (h : k + c < 1000) : addF .i64 (Int.ofNat c) (Int.ofNat k) = Int.ofNat (k + c) := by
  show wrapF .i64 (Int.ofNat (c + k)) = _
  rw [Nat.add_comm c k]
  exact wrapS _ h
theorem allk : ∀ k0 k1 k2, k0 < 60 → k1 < 2 → k2 < 2 → okB (run (Int.ofNat (k0 + 2)) (Int.ofNat (k1 + 1)) (Int.ofNat (k2 + 1))) = true
  | 0, 0, 0, _, _, _ => r_0_0_0
  | 0, 0, 1, _, _, _ => r_0_0_1
  | 0, 1, 0, _, _, _ => r_0_1_0
  | 0, 1, 1, _, _, _ => r_0_1_1
  | 1, 0, 0, _, _, _ => r_1_0_0
  | 1, 0, 1, _, _, _ => r_1_0_1
  | 1, 1, 0, _, _, _ => r_1_1_0
  | 1, 1, 1, _, _, _ => r_1_1_1
  | 2, 0, 0, _, _, _ => r_2_0_0
  | 2, 0, 1, _, _, _ => r_2_0_1
  | 2, 1, 0, _, _, _ => r_2_1_0
  | 2, 1, 1, _, _, _ => r_2_1_1
  | 3, 0, 0, _, _, _ => r_3_0_0
  | 3, 0, 1, _, _, _ => r_3_0_1
  | 3, 1, 0, _, _, _ => r_3_1_0
  | 3, 1, 1, _, _, _ => r_3_1_1
  | 4, 0, 0, _, _, _ => r_4_0_0
  | 4, 0, 1, _, _, _ => r_4_0_1
  | 4, 1, 0, _, _, _ => r_4_1_0
  | 4, 1, 1, _, _, _ => r_4_1_1
  | 5, 0, 0, _, _, _ => r_5_0_0
  | 5, 0, 1, _, _, _ => r_5_0_1
  | 5, 1, 0, _, _, _ => r_5_1_0
  | 5, 1, 1, _, _, _ => r_5_1_1
  | 6, 0, 0, _, _, _ => r_6_0_0
  | 6, 0, 1, _, _, _ => r_6_0_1
  | 6, 1, 0, _, _, _ => r_6_1_0
  | 6, 1, 1, _, _, _ => r_6_1_1
  | 7, 0, 0, _, _, _ => r_7_0_0
  | 7, 0, 1, _, _, _ => r_7_0_1
  | 7, 1, 0, _, _, _ => r_7_1_0
  | 7, 1, 1, _, _, _ => r_7_1_1
  | 8, 0, 0, _, _, _ => r_8_0_0
  | 8, 0, 1, _, _, _ => r_8_0_1
  | 8, 1, 0, _, _, _ => r_8_1_0
  | 8, 1, 1, _, _, _ => r_8_1_1
  | 9, 0, 0, _, _, _ => r_9_0_0
  | 9, 0, 1, _, _, _ => r_9_0_1
  | 9, 1, 0, _, _, _ => r_9_1_0
  | 9, 1, 1, _, _, _ => r_9_1_1
  | 10, 0, 0, _, _, _ => r_10_0_0
  | 10, 0, 1, _, _, _ => r_10_0_1
  | 10, 1, 0, _, _, _ => r_10_1_0
  | 10, 1, 1, _, _, _ => r_10_1_1
  | 11, 0, 0, _, _, _ => r_11_0_0
  | 11, 0, 1, _, _, _ => r_11_0_1
  | 11, 1, 0, _, _, _ => r_11_1_0
  | 11, 1, 1, _, _, _ => r_11_1_1
  | 12, 0, 0, _, _, _ => r_12_0_0
  | 12, 0, 1, _, _, _ => r_12_0_1
  | 12, 1, 0, _, _, _ => r_12_1_0
  | 12, 1, 1, _, _, _ => r_12_1_1
  | 13, 0, 0, _, _, _ => r_13_0_0
  | 13, 0, 1, _, _, _ => r_13_0_1
  | 13, 1, 0, _, _, _ => r_13_1_0
  | 13, 1, 1, _, _, _ => r_13_1_1
  | 14, 0, 0, _, _, _ => r_14_0_0
  | 14, 0, 1, _, _, _ => r_14_0_1
  | 14, 1, 0, _, _, _ => r_14_1_0
  | 14, 1, 1, _, _, _ => r_14_1_1
  | 15, 0, 0, _, _, _ => r_15_0_0
  | 15, 0, 1, _, _, _ => r_15_0_1
  | 15, 1, 0, _, _, _ => r_15_1_0
  | 15, 1, 1, _, _, _ => r_15_1_1
  | 16, 0, 0, _, _, _ => r_16_0_0
  | 16, 0, 1, _, _, _ => r_16_0_1
  | 16, 1, 0, _, _, _ => r_16_1_0
  | 16, 1, 1, _, _, _ => r_16_1_1
  | 17, 0, 0, _, _, _ => r_17_0_0
  | 17, 0, 1, _, _, _ => r_17_0_1
  | 17, 1, 0, _, _, _ => r_17_1_0
  | 17, 1, 1, _, _, _ => r_17_1_1
  | 18, 0, 0, _, _, _ => r_18_0_0
  | 18, 0, 1, _, _, _ => r_18_0_1
  | 18, 1, 0, _, _, _ => r_18_1_0
  | 18, 1, 1, _, _, _ => r_18_1_1
  | 19, 0, 0, _, _, _ => r_19_0_0
  | 19, 0, 1, _, _, _ => r_19_0_1
  | 19, 1, 0, _, _, _ => r_19_1_0
  | 19, 1, 1, _, _, _ => r_19_1_1
  | 20, 0, 0, _, _, _ => r_20_0_0
  | 20, 0, 1, _, _, _ => r_20_0_1
  | 20, 1, 0, _, _, _ => r_20_1_0
  | 20, 1, 1, _, _, _ => r_20_1_1
  | 21, 0, 0, _, _, _ => r_21_0_0
  | 21, 0, 1, _, _, _ => r_21_0_1
  | 21, 1, 0, _, _, _ => r_21_1_0
  | 21, 1, 1, _, _, _ => r_21_1_1
  | 22, 0, 0, _, _, _ => r_22_0_0
  | 22, 0, 1, _, _, _ => r_22_0_1
  | 22, 1, 0, _, _, _ => r_22_1_0
  | 22, 1, 1, _, _, _ => r_22_1_1
  | 23, 0, 0, _, _, _ => r_23_0_0
  | 23, 0, 1, _, _, _ => r_23_0_1
  | 23, 1, 0, _, _, _ => r_23_1_0
  | 23, 1, 1, _, _, _ => r_23_1_1
  | 24, 0, 0, _, _, _ => r_24_0_0
  | 24, 0, 1, _, _, _ => r_24_0_1
  | 24, 1, 0, _, _, _ => r_24_1_0
  | 24, 1, 1, _, _, _ => r_24_1_1
  | 25, 0, 0, _, _, _ => r_25_0_0
  | 25, 0, 1, _, _, _ => r_25_0_1
  | 25, 1, 0, _, _, _ => r_25_1_0
  | 25, 1, 1, _, _, _ => r_25_1_1
  | 26, 0, 0, _, _, _ => r_26_0_0
  | 26, 0, 1, _, _, _ => r_26_0_1
  | 26, 1, 0, _, _, _ => r_26_1_0
  | 26, 1, 1, _, _, _ => r_26_1_1
  | 27, 0, 0, _, _, _ => r_27_0_0
  | 27, 0, 1, _, _, _ => r_27_0_1
  | 27, 1, 0, _, _, _ => r_27_1_0
  | 27, 1, 1, _, _, _ => r_27_1_1
  | 28, 0, 0, _, _, _ => r_28_0_0
  | 28, 0, 1, _, _, _ => r_28_0_1
  | 28, 1, 0, _, _, _ => r_28_1_0
  | 28, 1, 1, _, _, _ => r_28_1_1
  | 29, 0, 0, _, _, _ => r_29_0_0
  | 29, 0, 1, _, _, _ => r_29_0_1
  | 29, 1, 0, _, _, _ => r_29_1_0
  | 29, 1, 1, _, _, _ => r_29_1_1
  | 30, 0, 0, _, _, _ => r_30_0_0
  | 30, 0, 1, _, _, _ => r_30_0_1
  | 30, 1, 0, _, _, _ => r_30_1_0
  | 30, 1, 1, _, _, _ => r_30_1_1
  | 31, 0, 0, _, _, _ => r_31_0_0
  | 31, 0, 1, _, _, _ => r_31_0_1
  | 31, 1, 0, _, _, _ => r_31_1_0
  | 31, 1, 1, _, _, _ => r_31_1_1
  | 32, 0, 0, _, _, _ => r_32_0_0
  | 32, 0, 1, _, _, _ => r_32_0_1
  | 32, 1, 0, _, _, _ => r_32_1_0
  | 32, 1, 1, _, _, _ => r_32_1_1
  | 33, 0, 0, _, _, _ => r_33_0_0
  | 33, 0, 1, _, _, _ => r_33_0_1
  | 33, 1, 0, _, _, _ => r_33_1_0
  | 33, 1, 1, _, _, _ => r_33_1_1
  | 34, 0, 0, _, _, _ => r_34_0_0
  | 34, 0, 1, _, _, _ => r_34_0_1
  | 34, 1, 0, _, _, _ => r_34_1_0
  | 34, 1, 1, _, _, _ => r_34_1_1
  | 35, 0, 0, _, _, _ => r_35_0_0
  | 35, 0, 1, _, _, _ => r_35_0_1
  | 35, 1, 0, _, _, _ => r_35_1_0
  | 35, 1, 1, _, _, _ => r_35_1_1
  | 36, 0, 0, _, _, _ => r_36_0_0
  | 36, 0, 1, _, _, _ => r_36_0_1
  | 36, 1, 0, _, _, _ => r_36_1_0
  | 36, 1, 1, _, _, _ => r_36_1_1
  | 37, 0, 0, _, _, _ => r_37_0_0
  | 37, 0, 1, _, _, _ => r_37_0_1
  | 37, 1, 0, _, _, _ => r_37_1_0
  | 37, 1, 1, _, _, _ => r_37_1_1
  | 38, 0, 0, _, _, _ => r_38_0_0
  | 38, 0, 1, _, _, _ => r_38_0_1
  | 38, 1, 0, _, _, _ => r_38_1_0
  | 38, 1, 1, _, _, _ => r_38_1_1
  | 39, 0, 0, _, _, _ => r_39_0_0
  | 39, 0, 1, _, _, _ => r_39_0_1
  | 39, 1, 0, _, _, _ => r_39_1_0
  | 39, 1, 1, _, _, _ => r_39_1_1
  | 40, 0, 0, _, _, _ => r_40_0_0
  | 40, 0, 1, _, _, _ => r_40_0_1
  | 40, 1, 0, _, _, _ => r_40_1_0
  | 40, 1, 1, _, _, _ => r_40_1_1
  | 41, 0, 0, _, _, _ => r_41_0_0
  | 41, 0, 1, _, _, _ => r_41_0_1
  | 41, 1, 0, _, _, _ => r_41_1_0
  | 41, 1, 1, _, _, _ => r_41_1_1
  | 42, 0, 0, _, _, _ => r_42_0_0
  | 42, 0, 1, _, _, _ => r_42_0_1
  | 42, 1, 0, _, _, _ => r_42_1_0
  | 42, 1, 1, _, _, _ => r_42_1_1
  | 43, 0, 0, _, _, _ => r_43_0_0
  | 43, 0, 1, _, _, _ => r_43_0_1
  | 43, 1, 0, _, _, _ => r_43_1_0
  | 43, 1, 1, _, _, _ => r_43_1_1
  | 44, 0, 0, _, _, _ => r_44_0_0
  | 44, 0, 1, _, _, _ => r_44_0_1
  | 44, 1, 0, _, _, _ => r_44_1_0
  | 44, 1, 1, _, _, _ => r_44_1_1
  | 45, 0, 0, _, _, _ => r_45_0_0
  | 45, 0, 1, _, _, _ => r_45_0_1
  | 45, 1, 0, _, _, _ => r_45_1_0
  | 45, 1, 1, _, _, _ => r_45_1_1
  | 46, 0, 0, _, _, _ => r_46_0_0
  | 46, 0, 1, _, _, _ => r_46_0_1
  | 46, 1, 0, _, _, _ => r_46_1_0
  | 46, 1, 1, _, _, _ => r_46_1_1
  | 47, 0, 0, _, _, _ => r_47_0_0
  | 47, 0, 1, _, _, _ => r_47_0_1
  | 47, 1, 0, _, _, _ => r_47_1_0
  | 47, 1, 1, _, _, _ => r_47_1_1
  | 48, 0, 0, _, _, _ => r_48_0_0
  | 48, 0, 1, _, _, _ => r_48_0_1
  | 48, 1, 0, _, _, _ => r_48_1_0
  | 48, 1, 1, _, _, _ => r_48_1_1
  | 49, 0, 0, _, _, _ => r_49_0_0
  | 49, 0, 1, _, _, _ => r_49_0_1
  | 49, 1, 0, _, _, _ => r_49_1_0
  | 49, 1, 1, _, _, _ => r_49_1_1
  | 50, 0, 0, _, _, _ => r_50_0_0
  | 50, 0, 1, _, _, _ => r_50_0_1
  | 50, 1, 0, _, _, _ => r_50_1_0
  | 50, 1, 1, _, _, _ => r_50_1_1
  | 51, 0, 0, _, _, _ => r_51_0_0
  | 51, 0, 1, _, _, _ => r_51_0_1
  | 51, 1, 0, _, _, _ => r_51_1_0
  | 51, 1, 1, _, _, _ => r_51_1_1
  | 52, 0, 0, _, _, _ => r_52_0_0
  | 52, 0, 1, _, _, _ => r_52_0_1
  | 52, 1, 0, _, _, _ => r_52_1_0
  | 52, 1, 1, _, _, _ => r_52_1_1
  | 53, 0, 0, _, _, _ => r_53_0_0
  | 53, 0, 1, _, _, _ => r_53_0_1
  | 53, 1, 0, _, _, _ => r_53_1_0
  | 53, 1, 1, _, _, _ => r_53_1_1
  | 54, 0, 0, _, _, _ => r_54_0_0
  | 54, 0, 1, _, _, _ => r_54_0_1
  | 54, 1, 0, _, _, _ => r_54_1_0
  | 54, 1, 1, _, _, _ => r_54_1_1
  | 55, 0, 0, _, _, _ => r_55_0_0
  | 55, 0, 1, _, _, _ => r_55_0_1
  | 55, 1, 0, _, _, _ => r_55_1_0
  | 55, 1, 1, _, _, _ => r_55_1_1
  | 56, 0, 0, _, _, _ => r_56_0_0
  | 56, 0, 1, _, _, _ => r_56_0_1
  | 56, 1, 0, _, _, _ => r_56_1_0
  | 56, 1, 1, _, _, _ => r_56_1_1
  | 57, 0, 0, _, _, _ => r_57_0_0
  | 57, 0, 1, _, _, _ => r_57_0_1
  | 57, 1, 0, _, _, _ => r_57_1_0
  | 57, 1, 1, _, _, _ => r_57_1_1
  | 58, 0, 0, _, _, _ => r_58_0_0
  | 58, 0, 1, _, _, _ => r_58_0_1
  | 58, 1, 0, _, _, _ => r_58_1_0
  | 58, 1, 1, _, _, _ => r_58_1_1
  | 59, 0, 0, _, _, _ => r_59_0_0
  | 59, 0, 1, _, _, _ => r_59_0_1
  | 59, 1, 0, _, _, _ => r_59_1_0
  | 59, 1, 1, _, _, _ => r_59_1_1
  | k0 + 60, _, _, h, _, _ => absurd h (by omega)
  | _, k1 + 2, _, _, h, _ => absurd h (by omega)
  | _, _, k2 + 2, _, _, h => absurd h (by omega)
theorem runs (x0 : Int) (x1 : Int) (x2 : Int) : okB (denK (BD [] 100000) kn gcl 61 3 [.int .i64 x0, .int .i64 x1, .int .i64 x2] ⟨100, []⟩) = true := by
  obtain ⟨k0, hk0, he0⟩ := remU x0 60 (by decide) (by decide)
  obtain ⟨k1, hk1, he1⟩ := remU x1 2 (by decide) (by decide)
  obtain ⟨k2, hk2, he2⟩ := remU x2 2 (by decide) (by decide)
  rw [step1, he0, he1, he2, wrapS k0 (by omega), wrapS k1 (by omega), wrapS k2 (by omega), addS 2 k0 (by omega), addS 1 k1 (by omega), addS 1 k2 (by omega)]
  exact allk k0 k1 k2 hk0 hk1 hk2

/-! ### the model -/
theorem walk (x0 : Int) (x1 : Int) (x2 : Int) (w : World) : Calls Tryz.prog 3 #[.int .i64 x0, .int .i64 x1, .int .i64 x2] w fun e w' => e = .returned (.bool true) ∧ w.keptBut w' (fun _ => False) :=
  law_of_run (DK_ok 61 3) globLt (by decide : 2 ≤ 100) [.int .i64 x0, .int .i64 x1, .int .i64 x2] [.int .i64 x0, .int .i64 x1, .int .i64 x2] w (rfl) (runs x0 x1 x2)

theorem own : ownKnob Tryz.prog.godebug = none := by kernel_rfl
theorem lifted (os : Os) (started : os.Started) (H : Type) (enc : TypeId × Value → H) :
    ReturnsInHanded {} Tryz.checked os 3 .any (fun w args => (Rows.crossUnknownSpec.pre enc Tryz.prog Tryz.f3 Rows.crossUnknownRow.domain false w args ∧ laidMetH Tryz.prog Rows.crossUnknownRow.laid w) ∧ sizedMet enc Tryz.prog Tryz.f3 (OpenSpec.ofChange Rows.crossUnknownSpec) false w args)
      (Rows.crossUnknownSpec.post enc Tryz.prog Tryz.f3 false true false false) := by
  refine returnsInHanded_of_change_and (C := Tryz.checked) (X := fun w _ => laidMetH Tryz.prog Rows.crossUnknownRow.laid w) (fun _ _ _ hh h => h.of_heap hh) own started (by kernel_rfl) Tryz.func3
    (ChangeSpec.witness_shaped (enc := enc) (C := Tryz.checked) (os := os) (X := fun w _ => laidMetH Tryz.prog Rows.crossUnknownRow.laid w) false (World.laidAll Tryz.prog os Rows.crossUnknownRow.laid) #[.int .i64 0, .int .i64 0, .int .i64 0] 8 (World.laidAll_os _ _ _)
      (World.shaped_of_ZipB (by kernel_rfl) (by kernel_rfl)) (by kernel_rfl) (by kernel_rfl) (by kernel_rfl)
      (by rw [MakeChecks.laidMetH_plain _ _ _ (by kernel_rfl)]; exact laidMet_laidAll _ (by kernel_rfl) (by kernel_rfl))) ?_
  intro W base args ds gs before hval0 hW hc _ hL _
  have hval : ∀ (j : Nat) t v, Tryz.f3.params[j]? = some t → args[j]? = some v → Value.okWide Tryz.prog W .any base t v := hval0
  have hW' := hW
  obtain ⟨p, q, hA0, hV, rfl, _, _⟩ := hW
  have hA : DataW.TrodAll enc Tryz.prog W 0 (fun _ => true) true Tryz.f3.params.toList args.toList ds p := hA0
  rw [Tryz.params3] at hA hval
  obtain ⟨v0, v1, v2, d0, d1, d2, p0, p1, p2, rfl, rfl, rfl, h0, h1, h2⟩ := trodAll_three hA
  obtain ⟨rfl, rfl⟩ := trodVars_none hV
  obtain ⟨x0, rfl, rfl, rfl, w0⟩ := open_int Tryz.underlying3 (hval 0 3 v0 rfl rfl) h0
  obtain ⟨x1, rfl, rfl, rfl, w1⟩ := open_int Tryz.underlying3 (hval 1 3 v1 rfl rfl) h1
  obtain ⟨x2, rfl, rfl, rfl, w2⟩ := open_int Tryz.underlying3 (hval 2 3 v2 rfl rfl) h2
  simp only [List.append_nil] at hW'
  refine (walk x0 x1 x2 W).mono fun e W' ⟨he, hw⟩ => ?_
  subst he
  refine ⟨_, rfl, _, _, _, [], [], [], hW', ?_, ?_, ?_, World.keptBut_mono (fun _ f => f.elim) hw, fun h => by cases h⟩
  · exact trodAll_mk1 (shut_bool Tryz.underlying4 true)
  · exact trodAll_mk3 (shut_int Tryz.underlying3 w0) (shut_int Tryz.underlying3 w1) (shut_int Tryz.underlying3 w2)
  · rfl

theorem said : Rows.CrossUnknownSaid :=
  OpenClaim.holds_of_wide 3 Tryz.f3 rfl rfl rfl rfl rfl rfl rfl ⟨rfl, rfl, rfl, rfl, rfl⟩ rfl rfl rfl rfl rfl (by kernel_rfl) Tryz.func3 (by kernel_rfl)
    (of_decide_eq_true (by kernel_rfl)) (by unfold Func.isWrapper; first | (rw [if_pos (by decide +kernel)]; kernel_rfl) | (rw [if_neg (by decide +kernel)]; exact ⟨rfl, rfl⟩))
    (fun os started H enc _ => lifted os started H enc)
theorem plain (f : FuncId) (fn : Func) (hf : Tryz.pinned.checked.prog.funcNamed Rows.crossUnknownRow.func = some f) (hfn : Tryz.pinned.checked.prog.funcs[f]? = some fn) :
    false = Tryz.pinned.checked.prog.looks [] ∧ ∀ (j : Nat) t, fn.params[j]? = some t → Tryz.pinned.checked.prog.wantsStandIn t = false := by
  obtain rfl : f = 3 := Option.some.inj ((show Tryz.prog.funcNamed Rows.crossUnknownRow.func = some 3 by kernel_rfl).symm.trans hf) |>.symm
  obtain rfl : fn = Tryz.f3 := (Option.some.inj (Tryz.func3.symm.trans hfn)).symm
  refine ⟨by kernel_rfl, fun j t ht => ?_⟩
  rw [Tryz.params3] at ht
  have hm := Array.mem_of_getElem? ht
  simp only [List.mem_toArray, List.mem_cons, List.not_mem_nil, or_false] at hm
  rcases hm with rfl | rfl | rfl
  · exact (show Tryz.prog.wantsStandIn 3 = false by kernel_rfl)
  · exact (show Tryz.prog.wantsStandIn 3 = false by kernel_rfl)
  · exact (show Tryz.prog.wantsStandIn 3 = false by kernel_rfl)
/-- THE CARD -/
theorem card : Rows.CrossUnknownCardSaid :=
  Claim7.holds_tied_plain_at .later [] _ _ _ _ said (fun _ h => by cases h) (by kernel_rfl) (fun _ h => by cases h) crossUnknown_row_tie rfl ⟨rfl, rfl⟩ (by kernel_rfl) rfl plain (by kernel_rfl)
#print axioms card
end Go.Proofs.YtmgbgifepccgpaaGreatDoor.crossUnknown
