/- SyntaxDeep: types within types, as deep as may be, and one deeper: for every n the call returns true, and n reads as it did. No condition beyond the row's own. -/
import Derived.Test.YthmlfgjhdkgolaaDoorD
import Derived.Test.YthmlfgjhdkgolaaDoorOgZ
import Derived.Test.YthmlfgjhdkgolaaDoorCards
import Derived.Test.YthmlfgjhdkgolaaDoorTie
import Derived.WalkKit
import Derived.ProofKit
import Derived.OpenShut
import Derived.LaidMore
import Derived.Lay
import Derived.SevenTiedAt
import Derived.Stop.Joined
set_option maxRecDepth 100000
set_option linter.all false
namespace Go.Proofs.YthmlfgjhdkgolaaDoor
open Go Go.Og Go.ChangeShapes Go.WideShapes Go.ChangeAt Go.RowKit

/-! ### what the evaluator answers -/
noncomputable def run3 (x : Int) : Ans := L3_2 [] (DT [] 100000 60) (drawW [] (DT [] 100000 60)) 100000 100000 x (BS.mk 0 0) (Int.ofNat 0) ⟨100, []⟩
theorem run3_eq (a : Int) : DT [] 100000 61 3 [.int .i64 a] ⟨100, []⟩ = run3 (wrapF .i64 (Int.tmod (wrapF .u64 a) (Int.ofNat 22))) := by kernel_rfl
theorem d0 : okB (run3 (.ofNat 0)) = true := by kernel_rfl
theorem d1 : okB (run3 (.ofNat 1)) = true := by kernel_rfl
theorem d2 : okB (run3 (.ofNat 2)) = true := by kernel_rfl
theorem d3 : okB (run3 (.ofNat 3)) = true := by kernel_rfl
theorem d4 : okB (run3 (.ofNat 4)) = true := by kernel_rfl
theorem d5 : okB (run3 (.ofNat 5)) = true := by kernel_rfl
theorem d6 : okB (run3 (.ofNat 6)) = true := by kernel_rfl
theorem d7 : okB (run3 (.ofNat 7)) = true := by kernel_rfl
theorem d8 : okB (run3 (.ofNat 8)) = true := by kernel_rfl
theorem d9 : okB (run3 (.ofNat 9)) = true := by kernel_rfl
theorem d10 : okB (run3 (.ofNat 10)) = true := by kernel_rfl
theorem d11 : okB (run3 (.ofNat 11)) = true := by kernel_rfl
theorem d12 : okB (run3 (.ofNat 12)) = true := by kernel_rfl
theorem d13 : okB (run3 (.ofNat 13)) = true := by kernel_rfl
theorem d14 : okB (run3 (.ofNat 14)) = true := by kernel_rfl
theorem d15 : okB (run3 (.ofNat 15)) = true := by kernel_rfl
theorem d16 : okB (run3 (.ofNat 16)) = true := by kernel_rfl
theorem d17 : okB (run3 (.ofNat 17)) = true := by kernel_rfl
theorem d18 : okB (run3 (.ofNat 18)) = true := by kernel_rfl
theorem d19 : okB (run3 (.ofNat 19)) = true := by kernel_rfl
theorem d20 : okB (run3 (.ofNat 20)) = true := by kernel_rfl
theorem d21 : okB (run3 (.ofNat 21)) = true := by kernel_rfl
theorem all22 : ∀ k, k < 22 → okB (run3 (.ofNat k)) = true
  | 0, _ => d0 | 1, _ => d1 | 2, _ => d2 | 3, _ => d3 | 4, _ => d4 | 5, _ => d5 | 6, _ => d6 | 7, _ => d7 | 8, _ => d8 | 9, _ => d9 | 10, _ => d10
  | 11, _ => d11 | 12, _ => d12 | 13, _ => d13 | 14, _ => d14 | 15, _ => d15 | 16, _ => d16 | 17, _ => d17 | 18, _ => d18 | 19, _ => d19 | 20, _ => d20 | 21, _ => d21
  | k + 22, h => absurd h (by omega)
theorem rem22 (a : Int) : ∃ k, k < 22 ∧ wrapF .i64 (Int.tmod (wrapF .u64 a) (Int.ofNat 22)) = .ofNat k := by
  rw [wrapF_eq, wrapF_eq]
  have h : ∃ m : Nat, IntKind.wrap .u64 a = Int.ofNat m := by
    have : 0 ≤ IntKind.wrap .u64 a := by
      unfold IntKind.wrap; simp only [IntKind.signed, IntKind.bits]; simp; omega
    exact ⟨_, (Int.toNat_of_nonneg this).symm⟩
  obtain ⟨m, hm⟩ := h
  rw [hm]
  have h2 : Int.tmod (Int.ofNat m) (Int.ofNat 22) = Int.ofNat (m % 22) := rfl
  rw [h2]
  refine ⟨m % 22, Nat.mod_lt _ (by decide), wrap_in ?_⟩
  have : m % 22 < 22 := Nat.mod_lt _ (by decide)
  simp only [inK, maxN, Nat.ble_eq]; omega
theorem runs (a : Int) : okB (DT [] 100000 61 3 [.int .i64 a] ⟨100, []⟩) = true := by
  obtain ⟨k, hk, he⟩ := rem22 a
  rw [run3_eq, he]
  exact all22 k hk

/-! ### the model -/
theorem globLt : ∀ g, glob g = true → g < 7 := fun g hg => by simpa [glob] using hg
theorem walk (a : Int) (w : World) : Calls Tryd.prog 3 #[.int .i64 a] w fun e w' => e = .returned (.bool true) ∧ w.keptBut w' (fun _ => False) :=
  law_of_run (DT_ok [] 100000 61 3) globLt (by decide : 7 ≤ 100) [.int .i64 a] [.int .i64 a] w rfl (runs a)

theorem own : ownKnob Tryd.prog.godebug = none := by kernel_rfl
theorem lifted (os : Os) (started : os.Started) (H : Type) (enc : TypeId × Value → H) :
    ReturnsInHanded {} Tryd.checked os 3 .any (fun w args => (Rows.syntaxDeepSpec.pre enc Tryd.prog Tryd.f3 Rows.syntaxDeepRow.domain false w args ∧ laidMetH Tryd.prog Rows.syntaxDeepRow.laid w) ∧ sizedMet enc Tryd.prog Tryd.f3 (OpenSpec.ofChange Rows.syntaxDeepSpec) false w args)
      (Rows.syntaxDeepSpec.post enc Tryd.prog Tryd.f3 false true false false) := by
  refine returnsInHanded_of_change_and (C := Tryd.checked) (X := fun w _ => laidMetH Tryd.prog Rows.syntaxDeepRow.laid w) (fun _ _ _ hh h => h.of_heap hh) own started (by kernel_rfl) Tryd.func3
    (ChangeSpec.witness_shaped (enc := enc) (C := Tryd.checked) (os := os) (X := fun w _ => laidMetH Tryd.prog Rows.syntaxDeepRow.laid w) false (World.laidAll Tryd.prog os Rows.syntaxDeepRow.laid) #[.int .i64 0] 8 (World.laidAll_os _ _ _)
      (World.shaped_of_ZipB (by kernel_rfl) (by kernel_rfl)) (by kernel_rfl) (by kernel_rfl) (by kernel_rfl)
      (by rw [MakeChecks.laidMetH_plain _ _ _ (by kernel_rfl)]; exact laidMet_laidAll _ (by kernel_rfl) (by kernel_rfl))) ?_
  intro W base args ds gs before hval0 hW hc _ hL _
  have hval : ∀ (j : Nat) t v, Tryd.f3.params[j]? = some t → args[j]? = some v → Value.okWide Tryd.prog W .any base t v := hval0
  have hW' := hW
  obtain ⟨p, q, hA0, hV, rfl, _, _⟩ := hW
  have hA : DataW.TrodAll enc Tryd.prog W 0 (fun _ => true) true Tryd.f3.params.toList args.toList ds p := hA0
  rw [Tryd.params3] at hA hval
  obtain ⟨v0, d0, rfl, rfl, h0⟩ := trodAll_one hA
  obtain ⟨rfl, rfl⟩ := trodVars_none hV
  obtain ⟨x, rfl, rfl, rfl, wx⟩ := open_int Tryd.underlying3 (hval 0 3 v0 rfl rfl) h0
  simp only [List.append_nil] at hW'
  refine (walk x W).mono fun e W' ⟨he, hw⟩ => ?_
  subst he
  refine ⟨_, rfl, _, _, _, [], [], [], hW', ?_, ?_, ?_, World.keptBut_mono (fun _ f => f.elim) hw, fun h => by cases h⟩
  · exact trodAll_mk1 (shut_bool Tryd.underlying4 true)
  · exact trodAll_mk1 (shut_int Tryd.underlying3 wx)
  · rfl

theorem said : Rows.SyntaxDeepSaid :=
  OpenClaim.holds_of_wide 3 Tryd.f3 rfl rfl rfl rfl rfl rfl rfl ⟨rfl, rfl, rfl, rfl, rfl⟩ rfl rfl rfl rfl rfl (by kernel_rfl) Tryd.func3 (by kernel_rfl)
    (of_decide_eq_true (by kernel_rfl)) (by unfold Func.isWrapper; first | (rw [if_pos (by decide +kernel)]; kernel_rfl) | (rw [if_neg (by decide +kernel)]; exact ⟨rfl, rfl⟩))
    (fun os started H enc _ => lifted os started H enc)
theorem plain (f : FuncId) (fn : Func) (hf : Tryd.pinned.checked.prog.funcNamed "ogham/oghamlaw05.SyntaxDeep" = some f) (hfn : Tryd.pinned.checked.prog.funcs[f]? = some fn) :
    true = Tryd.pinned.checked.prog.looks [] ∧ ∀ (j : Nat) t, fn.params[j]? = some t → Tryd.pinned.checked.prog.wantsStandIn t = false := by
  obtain rfl : f = 3 := Option.some.inj ((show Tryd.prog.funcNamed "ogham/oghamlaw05.SyntaxDeep" = some 3 by kernel_rfl).symm.trans hf) |>.symm
  obtain rfl : fn = Tryd.f3 := (Option.some.inj (Tryd.func3.symm.trans hfn)).symm
  refine ⟨by kernel_rfl, fun j t ht => ?_⟩
  rw [Tryd.params3] at ht
  obtain rfl : t = 3 := by simpa using Array.mem_of_getElem? ht
  exact (show Tryd.prog.wantsStandIn 3 = false by kernel_rfl)
/-- THE CARD -/
theorem card : Rows.SyntaxDeepCardSaid :=
  Claim7.holds_tied_plain_at .later [] _ _ _ _ said (fun _ h => by cases h) (by kernel_rfl) (fun _ h => by cases h) syntaxDeep_row_tie rfl ⟨rfl, rfl⟩ (by kernel_rfl) rfl plain (by kernel_rfl)
#print axioms card
end Go.Proofs.YthmlfgjhdkgolaaDoor
