/- SyntaxMany: as many names of types as may be, and one more: for every n the call returns true, and n reads as it did. No condition beyond the row's own. -/
import Derived.Test.YtidadhnbgejmgaaDoorD
import Derived.Test.YtidadhnbgejmgaaDoorCards
import Derived.Test.YtidadhnbgejmgaaDoorTie
import Derived.WalkKit
import Derived.ProofKit
import Derived.OpenShut
import Derived.LaidMore
import Derived.Lay
import Derived.SevenTiedAt
import Derived.Stop.Joined
set_option maxRecDepth 100000
set_option maxHeartbeats 0
set_option linter.all false
namespace Go.Proofs.YtidadhnbgejmgaaDoor.syntaxMany
open Go Go.Og Go.ChangeShapes Go.WideShapes Go.ChangeAt Go.RowKit

/-! ### what the evaluator answers -/
noncomputable def run (x : Int) : Ans := L4_2 [] (DT [] 100000 60) (drawW [] (DT [] 100000 60)) 100000 100000 x (BS.mk 23 7498332466330919390058704096302558589643290322992898125) (Int.ofNat 0) (Int.ofNat 0) ⟨100, []⟩
theorem run_eq (a : Int) : DT [] 100000 61 4 [.int .i64 a] ⟨100, []⟩ = run (addF .i64 (Int.ofNat 38) (wrapF .i64 (Int.tmod (wrapF .u64 a) (Int.ofNat 4)))) := by kernel_rfl
theorem d0 : okB (run (.ofNat 38)) = true := by kernel_rfl
theorem d1 : okB (run (.ofNat 39)) = true := by kernel_rfl
theorem d2 : okB (run (.ofNat 40)) = true := by kernel_rfl
theorem d3 : okB (run (.ofNat 41)) = true := by kernel_rfl
theorem allk : ∀ k, k < 4 → okB (run (.ofNat (k + 38))) = true
  | 0, _ => d0
  | 1, _ => d1
  | 2, _ => d2
  | 3, _ => d3
  | k + 4, h => absurd h (by omega)
theorem rems (a : Int) : ∃ k, k < 4 ∧ addF .i64 (Int.ofNat 38) (wrapF .i64 (Int.tmod (wrapF .u64 a) (Int.ofNat 4))) = .ofNat (k + 38) := by
  have hb : ∃ k : Nat, k < 4 ∧ wrapF .i64 (Int.tmod (wrapF .u64 a) (Int.ofNat 4)) = Int.ofNat k := by
    rw [wrapF_eq, wrapF_eq]
    have h : ∃ n : Nat, IntKind.wrap .u64 a = Int.ofNat n := by
      have : 0 ≤ IntKind.wrap .u64 a := by
        unfold IntKind.wrap; simp only [IntKind.signed, IntKind.bits]; simp; omega
      exact ⟨_, (Int.toNat_of_nonneg this).symm⟩
    obtain ⟨n, hn⟩ := h
    rw [hn]
    have h2 : Int.tmod (Int.ofNat n) (Int.ofNat 4) = Int.ofNat (n % 4) := rfl
    rw [h2]
    refine ⟨n % 4, Nat.mod_lt _ (by decide), wrap_in ?_⟩
    have : n % 4 < 4 := Nat.mod_lt _ (by decide)
    simp only [inK, maxN, Nat.ble_eq]; omega
  obtain ⟨k, hk, he⟩ := hb
  refine ⟨k, hk, ?_⟩
  rw [he]
  rw [addF_eq]
  have : (Int.ofNat 38 + Int.ofNat k) = Int.ofNat (k + 38) := by simp; omega
  rw [this]
  exact wrap_in (by simp only [inK, maxN, Nat.ble_eq]; omega)
theorem runs (a : Int) : okB (DT [] 100000 61 4 [.int .i64 a] ⟨100, []⟩) = true := by
  obtain ⟨k, hk, he⟩ := rems a
  rw [run_eq, he]
  exact allk k hk

/-! ### the model -/
theorem globLt : ∀ g, glob g = true → g < 7 := fun g hg => by simpa [glob] using hg
theorem walk (a : Int) (w : World) : Calls Tryd.prog 4 #[.int .i64 a] w fun e w' => e = .returned (.bool true) ∧ w.keptBut w' (fun _ => False) :=
  law_of_run (DT_ok [] 100000 61 4) globLt (by decide : 7 ≤ 100) [.int .i64 a] [.int .i64 a] w rfl (runs a)

theorem own : ownKnob Tryd.prog.godebug = none := by kernel_rfl
theorem lifted (os : Os) (started : os.Started) (H : Type) (enc : TypeId × Value → H) :
    ReturnsInHanded {} Tryd.checked os 4 .any (fun w args => (Rows.syntaxManySpec.pre enc Tryd.prog Tryd.f4 Rows.syntaxManyRow.domain false w args ∧ laidMetH Tryd.prog Rows.syntaxManyRow.laid w) ∧ sizedMet enc Tryd.prog Tryd.f4 (OpenSpec.ofChange Rows.syntaxManySpec) false w args)
      (Rows.syntaxManySpec.post enc Tryd.prog Tryd.f4 false true false false) := by
  refine returnsInHanded_of_change_and (C := Tryd.checked) (X := fun w _ => laidMetH Tryd.prog Rows.syntaxManyRow.laid w) (fun _ _ _ hh h => h.of_heap hh) own started (by kernel_rfl) Tryd.func4
    (ChangeSpec.witness_shaped (enc := enc) (C := Tryd.checked) (os := os) (X := fun w _ => laidMetH Tryd.prog Rows.syntaxManyRow.laid w) false (World.laidAll Tryd.prog os Rows.syntaxManyRow.laid) #[.int .i64 0] 8 (World.laidAll_os _ _ _)
      (World.shaped_of_ZipB (by kernel_rfl) (by kernel_rfl)) (by kernel_rfl) (by kernel_rfl) (by kernel_rfl)
      (by rw [MakeChecks.laidMetH_plain _ _ _ (by kernel_rfl)]; exact laidMet_laidAll _ (by kernel_rfl) (by kernel_rfl))) ?_
  intro W base args ds gs before hval0 hW hc _ hL _
  have hval : ∀ (j : Nat) t v, Tryd.f4.params[j]? = some t → args[j]? = some v → Value.okWide Tryd.prog W .any base t v := hval0
  have hW' := hW
  obtain ⟨p, q, hA0, hV, rfl, _, _⟩ := hW
  have hA : DataW.TrodAll enc Tryd.prog W 0 (fun _ => true) true Tryd.f4.params.toList args.toList ds p := hA0
  rw [Tryd.params4] at hA hval
  obtain ⟨v0, d0, rfl, rfl, h0⟩ := trodAll_one hA
  obtain ⟨rfl, rfl⟩ := trodVars_none hV
  obtain ⟨x, rfl, rfl, rfl, wx⟩ := open_int Tryd.underlying3 (hval 0 3 v0 rfl rfl) h0
  simp only [List.append_nil] at hW'
  refine (walk x W).mono fun e W' ⟨he, hw⟩ => ?_
  subst he
  refine ⟨_, rfl, _, _, _, [], [], [], hW', ?_, ?_, ?_, World.keptBut_mono (fun _ f => f.elim) hw, fun h => by cases h⟩
  · exact trodAll_mk1 (shut_bool Tryd.underlying4 true)
  · exact trodAll_mk1 (shut_int Tryd.underlying3 wx)
  · rfl

theorem said : Rows.SyntaxManySaid :=
  OpenClaim.holds_of_wide 4 Tryd.f4 rfl rfl rfl rfl rfl rfl rfl ⟨rfl, rfl, rfl, rfl, rfl⟩ rfl rfl rfl rfl rfl (by kernel_rfl) Tryd.func4 (by kernel_rfl)
    (of_decide_eq_true (by kernel_rfl)) (by unfold Func.isWrapper; first | (rw [if_pos (by decide +kernel)]; kernel_rfl) | (rw [if_neg (by decide +kernel)]; exact ⟨rfl, rfl⟩))
    (fun os started H enc _ => lifted os started H enc)
theorem plain (f : FuncId) (fn : Func) (hf : Tryd.pinned.checked.prog.funcNamed "ogham/oghamlaw05.SyntaxMany" = some f) (hfn : Tryd.pinned.checked.prog.funcs[f]? = some fn) :
    true = Tryd.pinned.checked.prog.looks [] ∧ ∀ (j : Nat) t, fn.params[j]? = some t → Tryd.pinned.checked.prog.wantsStandIn t = false := by
  obtain rfl : f = 4 := Option.some.inj ((show Tryd.prog.funcNamed "ogham/oghamlaw05.SyntaxMany" = some 4 by kernel_rfl).symm.trans hf) |>.symm
  obtain rfl : fn = Tryd.f4 := (Option.some.inj (Tryd.func4.symm.trans hfn)).symm
  refine ⟨by kernel_rfl, fun j t ht => ?_⟩
  rw [Tryd.params4] at ht
  obtain rfl : t = 3 := by simpa using Array.mem_of_getElem? ht
  exact (show Tryd.prog.wantsStandIn 3 = false by kernel_rfl)
/-- THE CARD -/
theorem card : Rows.SyntaxManyCardSaid :=
  Claim7.holds_tied_plain_at .later [] _ _ _ _ said (fun _ h => by cases h) (by kernel_rfl) (fun _ h => by cases h) syntaxMany_row_tie rfl ⟨rfl, rfl⟩ (by kernel_rfl) rfl plain (by kernel_rfl)
#print axioms card
end Go.Proofs.YtidadhnbgejmgaaDoor.syntaxMany
