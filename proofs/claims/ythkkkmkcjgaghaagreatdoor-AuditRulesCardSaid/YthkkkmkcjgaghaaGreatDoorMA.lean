/- oghamlaw25.AuditRules answers true for every input: the tied card. No condition beyond the row's own. -/
import Derived.Test.YthkkkmkcjgaghaaGreatDoorAT
import Derived.Test.YthkkkmkcjgaghaaGreatDoorAC0
import Derived.Test.YthkkkmkcjgaghaaGreatDoorAC1
import Derived.Test.YthkkkmkcjgaghaaGreatDoorAC2
import Derived.Test.YthkkkmkcjgaghaaGreatDoorAC3
import Derived.Test.YthkkkmkcjgaghaaGreatDoorCards
import Derived.Test.YthkkkmkcjgaghaaGreatDoorTie
import Derived.WalkKit
import Derived.ProofKit
import Derived.OpenShut
import Derived.ChangeMaps5
import Derived.LaidMore
import Derived.Lay
import Derived.SevenTiedAt
import Derived.Stop.Joined
set_option maxRecDepth 100000
set_option maxHeartbeats 0
set_option linter.all false
namespace Go.Proofs.YthkkkmkcjgaghaaGreatDoor.auditRules
open Go Go.Og Go.ChangeShapes Go.WideShapes Go.ChangeAt Go.RowKit

/-! ### what the evaluator answers -/
theorem remU (a : Int) (m : Nat) (hm : 0 < m) (hs : m < 1000) : ∃ k : Nat, k < m ∧ Int.tmod (wrapF .u64 a) (Int.ofNat m) = Int.ofNat k := by
  rw [wrapF_eq]
  have h : ∃ n : Nat, IntKind.wrap .u64 a = Int.ofNat n := by
    have : 0 ≤ IntKind.wrap .u64 a := by
      unfold IntKind.wrap; simp only [IntKind.signed, IntKind.bits]; simp; omega
    exact ⟨_, (Int.toNat_of_nonneg this).symm⟩
  obtain ⟨n, hn⟩ := h
  rw [hn]
  exact ⟨n % m, Nat.mod_lt _ hm, rfl⟩
theorem wrapS (k : Nat) (h : k < 1000) : wrapF .i64 (Int.ofNat k) = Int.ofNat k := by
  rw [wrapF_eq]
  refine wrap_in ?_
  simp only [inK, maxN, Nat.ble_eq]; omega
theorem allk : ∀ k j, k < 4 → j < 6 → okB (run (Int.ofNat (k + 2)) (Int.ofNat j)) = true
  | 0, 0, _, _ => r_0_0
  | 0, 1, _, _ => r_0_1
  | 0, 2, _, _ => r_0_2
  | 0, 3, _, _ => r_0_3
  | 0, 4, _, _ => r_0_4
  | 0, 5, _, _ => r_0_5
  | 1, 0, _, _ => r_1_0
  | 1, 1, _, _ => r_1_1
  | 1, 2, _, _ => r_1_2
  | 1, 3, _, _ => r_1_3
  | 1, 4, _, _ => r_1_4
  | 1, 5, _, _ => r_1_5
  | 2, 0, _, _ => r_2_0
  | 2, 1, _, _ => r_2_1
  | 2, 2, _, _ => r_2_2
  | 2, 3, _, _ => r_2_3
  | 2, 4, _, _ => r_2_4
  | 2, 5, _, _ => r_2_5
  | 3, 0, _, _ => r_3_0
  | 3, 1, _, _ => r_3_1
  | 3, 2, _, _ => r_3_2
  | 3, 3, _, _ => r_3_3
  | 3, 4, _, _ => r_3_4
  | 3, 5, _, _ => r_3_5
  | k + 4, _, h, _ => absurd h (by omega)
  | _, j + 6, _, h => absurd h (by omega)
theorem runs (x0 x1 : Int) : okB (denK (BD [] 100000) kn gcl 61 3 [.int .i64 x0, .int .i64 x1] ⟨100, []⟩) = true := by
  obtain ⟨k, hk, he⟩ := remU x0 4 (by decide) (by decide)
  obtain ⟨j, hj, hf⟩ := remU x1 6 (by decide) (by decide)
  rw [step1, he, wrapS k (by omega)]
  have ha : addF .i64 (Int.ofNat 2) (Int.ofNat k) = Int.ofNat (k + 2) := by
    show wrapF .i64 (Int.ofNat (2 + k)) = _
    rw [Nat.add_comm 2 k]
    exact wrapS _ (by omega)
  rw [ha, step2 k hk, hf]
  exact allk k j hk hj

/-! ### the model -/
theorem walk (x0 : Int) (x1 : Int) (w : World) : Calls Tryz.prog 3 #[.int .i64 x0, .int .i64 x1] w fun e w' => e = .returned (.bool true) ∧ w.keptBut w' (fun _ => False) :=
  law_of_run (DK_ok 61 3) globLt (by decide : 8 ≤ 100) [.int .i64 x0, .int .i64 x1] [.int .i64 x0, .int .i64 x1] w (rfl) (runs x0 x1)

theorem own : ownKnob Tryz.prog.godebug = none := by kernel_rfl
theorem lifted (os : Os) (started : os.Started) (H : Type) (enc : TypeId × Value → H) :
    ReturnsInHanded {} Tryz.checked os 3 .any (fun w args => (Rows.auditRulesSpec.pre enc Tryz.prog Tryz.f3 Rows.auditRulesRow.domain false w args ∧ laidMetH Tryz.prog Rows.auditRulesRow.laid w) ∧ sizedMet enc Tryz.prog Tryz.f3 (OpenSpec.ofChange Rows.auditRulesSpec) false w args)
      (Rows.auditRulesSpec.post enc Tryz.prog Tryz.f3 false true false false) := by
  refine returnsInHanded_of_change_and (C := Tryz.checked) (X := fun w _ => laidMetH Tryz.prog Rows.auditRulesRow.laid w) (fun _ _ _ hh h => h.of_heap hh) own started (by kernel_rfl) Tryz.func3
    (ChangeSpec.witness_shaped (enc := enc) (C := Tryz.checked) (os := os) (X := fun w _ => laidMetH Tryz.prog Rows.auditRulesRow.laid w) false (World.laidAll Tryz.prog os Rows.auditRulesRow.laid) #[.int .i64 0, .int .i64 0] 8 (World.laidAll_os _ _ _)
      (World.shaped_of_ZipB (by kernel_rfl) (by kernel_rfl)) (by kernel_rfl) (by kernel_rfl) (by kernel_rfl)
      (by rw [MakeChecks.laidMetH_plain _ _ _ (by kernel_rfl)]; exact laidMet_laidAll _ (by kernel_rfl) (by kernel_rfl))) ?_
  intro W base args ds gs before hval0 hW hc _ hL _
  have hval : ∀ (j : Nat) t v, Tryz.f3.params[j]? = some t → args[j]? = some v → Value.okWide Tryz.prog W .any base t v := hval0
  have hW' := hW
  obtain ⟨p, q, hA0, hV, rfl, _, _⟩ := hW
  have hA : DataW.TrodAll enc Tryz.prog W 0 (fun _ => true) true Tryz.f3.params.toList args.toList ds p := hA0
  rw [Tryz.params3] at hA hval
  obtain ⟨v0, v1, d0, d1, p0, p1, rfl, rfl, rfl, h0, h1⟩ := trodAll_two hA
  obtain ⟨rfl, rfl⟩ := trodVars_none hV
  obtain ⟨x0, rfl, rfl, rfl, w0⟩ := open_int Tryz.underlying3 (hval 0 3 v0 rfl rfl) h0
  obtain ⟨x1, rfl, rfl, rfl, w1⟩ := open_int Tryz.underlying3 (hval 1 3 v1 rfl rfl) h1
  simp only [List.append_nil] at hW'
  refine (walk x0 x1 W).mono fun e W' ⟨he, hw⟩ => ?_
  subst he
  refine ⟨_, rfl, _, _, _, [], [], [], hW', ?_, ?_, ?_, World.keptBut_mono (fun _ f => f.elim) hw, fun h => by cases h⟩
  · exact trodAll_mk1 (shut_bool Tryz.underlying4 true)
  · exact trodAll_mk2 (shut_int Tryz.underlying3 w0) (shut_int Tryz.underlying3 w1)
  · rfl

theorem said : Rows.AuditRulesSaid :=
  OpenClaim.holds_of_wide 3 Tryz.f3 rfl rfl rfl rfl rfl rfl rfl ⟨rfl, rfl, rfl, rfl, rfl⟩ rfl rfl rfl rfl rfl (by kernel_rfl) Tryz.func3 (by kernel_rfl)
    (of_decide_eq_true (by kernel_rfl)) (by unfold Func.isWrapper; first | (rw [if_pos (by decide +kernel)]; kernel_rfl) | (rw [if_neg (by decide +kernel)]; exact ⟨rfl, rfl⟩))
    (fun os started H enc _ => lifted os started H enc)
theorem plain (f : FuncId) (fn : Func) (hf : Tryz.pinned.checked.prog.funcNamed "ogham/oghamlaw25.AuditRules" = some f) (hfn : Tryz.pinned.checked.prog.funcs[f]? = some fn) :
    true = Tryz.pinned.checked.prog.looks [] ∧ ∀ (j : Nat) t, fn.params[j]? = some t → Tryz.pinned.checked.prog.wantsStandIn t = false := by
  obtain rfl : f = 3 := Option.some.inj ((show Tryz.prog.funcNamed "ogham/oghamlaw25.AuditRules" = some 3 by kernel_rfl).symm.trans hf) |>.symm
  obtain rfl : fn = Tryz.f3 := (Option.some.inj (Tryz.func3.symm.trans hfn)).symm
  refine ⟨by kernel_rfl, fun j t ht => ?_⟩
  rw [Tryz.params3] at ht
  have hm := Array.mem_of_getElem? ht
  simp only [List.mem_toArray, List.mem_cons, List.not_mem_nil, or_false] at hm
  rcases hm with rfl | rfl
  · exact (show Tryz.prog.wantsStandIn 3 = false by kernel_rfl)
  · exact (show Tryz.prog.wantsStandIn 3 = false by kernel_rfl)
/-- THE CARD -/
theorem card : Rows.AuditRulesCardSaid :=
  Claim7.holds_tied_plain_at .later [] _ _ _ _ said (fun _ h => by cases h) (by kernel_rfl) (fun _ h => by cases h) auditRules_row_tie rfl ⟨rfl, rfl⟩ (by kernel_rfl) rfl plain (by kernel_rfl)
#print axioms card
end Go.Proofs.YthkkkmkcjgaghaaGreatDoor.auditRules
