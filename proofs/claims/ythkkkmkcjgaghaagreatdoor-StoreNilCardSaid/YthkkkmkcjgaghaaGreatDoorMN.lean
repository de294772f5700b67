/- oghamlaw23.StoreNil answers true for every input: the tied card. No condition beyond the row's own. -/
import Derived.Test.YthkkkmkcjgaghaaGreatDoorKN
import Derived.Test.YthkkkmkcjgaghaaGreatDoorCards
import Derived.Test.YthkkkmkcjgaghaaGreatDoorTie
import Derived.WalkKit
import Derived.ProofKit
import Derived.OpenShut
import Derived.ChangeMaps5
import Derived.LaidMore
import Derived.Lay
import Derived.SevenTiedAt
import Derived.Stop.Joined
set_option maxRecDepth 100000
set_option maxHeartbeats 0
set_option linter.all false
namespace Go.Proofs.YthkkkmkcjgaghaaGreatDoor.storeNil
open Go Go.Og Go.ChangeShapes Go.WideShapes Go.ChangeAt Go.RowKit

/-! ### what the evaluator answers -/
theorem runs5 (s0 s1 : BS) (n : Int) : okB (denK (BD [] 100000) kn 61 5 [.str s0, .str s1, .int .i64 n] ⟨100, []⟩) = true := by
  have h : denK (BD [] 100000) kn 61 5 [.str s0, .str s1, .int .i64 n] ⟨100, []⟩ = T5_0 [] (denK (BD [] 100000) kn 60) (drawW [] (denK (BD [] 100000) kn 60)) s0 s1 n ⟨100, []⟩ := by kernel_rfl
  rw [h]
  unfold T5_0
  generalize ltF (Int.ofNat 3000) (Int.ofNat (BS.len s0)) = b
  cases b with
  | true => refine (?_ : (_ : Bool) = true); kernel_rfl
  | false => refine (?_ : (_ : Bool) = true); kernel_rfl
theorem runs (x0 x1 : ByteArray) (x2 : Int) : okB (denK (BD [] 100000) kn 61 5 [.str (BS.ofList x0.data.toList), .str (BS.ofList x1.data.toList), .int .i64 x2] ⟨100, []⟩) = true := runs5 _ _ _

/-! ### the model -/
theorem walk (x0 : ByteArray) (x1 : ByteArray) (x2 : Int) (w : World) : Calls Tryz.prog 5 #[.string x0, .string x1, .int .i64 x2] w fun e w' => e = .returned (.bool true) ∧ w.keptBut w' (fun _ => False) :=
  law_of_run (DK_ok 61 5) globLt (by decide : 8 ≤ 100) [.str (BS.ofList x0.data.toList), .str (BS.ofList x1.data.toList), .int .i64 x2] [.string x0, .string x1, .int .i64 x2] w (by simp [concs, conc, BS.toList_ofList]) (runs x0 x1 x2)

theorem own : ownKnob Tryz.prog.godebug = none := by kernel_rfl
theorem lifted (os : Os) (started : os.Started) (H : Type) (enc : TypeId × Value → H) :
    ReturnsInHanded {} Tryz.checked os 5 .any (fun w args => (Rows.storeNilSpec.pre enc Tryz.prog Tryz.f5 Rows.storeNilRow.domain false w args ∧ laidMetH Tryz.prog Rows.storeNilRow.laid w) ∧ sizedMet enc Tryz.prog Tryz.f5 (OpenSpec.ofChange Rows.storeNilSpec) false w args)
      (Rows.storeNilSpec.post enc Tryz.prog Tryz.f5 false true false false) := by
  refine returnsInHanded_of_change_and (C := Tryz.checked) (X := fun w _ => laidMetH Tryz.prog Rows.storeNilRow.laid w) (fun _ _ _ hh h => h.of_heap hh) own started (by kernel_rfl) Tryz.func5
    (ChangeSpec.witness_shaped (enc := enc) (C := Tryz.checked) (os := os) (X := fun w _ => laidMetH Tryz.prog Rows.storeNilRow.laid w) false (World.laidAll Tryz.prog os Rows.storeNilRow.laid) #[.string ⟨#[]⟩, .string ⟨#[]⟩, .int .i64 0] 8 (World.laidAll_os _ _ _)
      (World.shaped_of_ZipB (by kernel_rfl) (by kernel_rfl)) (by kernel_rfl) (by kernel_rfl) (by kernel_rfl)
      (by rw [MakeChecks.laidMetH_plain _ _ _ (by kernel_rfl)]; exact laidMet_laidAll _ (by kernel_rfl) (by kernel_rfl))) ?_
  intro W base args ds gs before hval0 hW hc _ hL _
  have hval : ∀ (j : Nat) t v, Tryz.f5.params[j]? = some t → args[j]? = some v → Value.okWide Tryz.prog W .any base t v := hval0
  have hW' := hW
  obtain ⟨p, q, hA0, hV, rfl, _, _⟩ := hW
  have hA : DataW.TrodAll enc Tryz.prog W 0 (fun _ => true) true Tryz.f5.params.toList args.toList ds p := hA0
  rw [Tryz.params5] at hA hval
  obtain ⟨v0, v1, v2, d0, d1, d2, p0, p1, p2, rfl, rfl, rfl, h0, h1, h2⟩ := trodAll_three hA
  obtain ⟨rfl, rfl⟩ := trodVars_none hV
  obtain ⟨x0, rfl, rfl, rfl, w0⟩ := Go.ChangeMaps.open_string Tryz.underlying9 (hval 0 9 v0 rfl rfl) h0
  obtain ⟨x1, rfl, rfl, rfl, w1⟩ := Go.ChangeMaps.open_string Tryz.underlying9 (hval 1 9 v1 rfl rfl) h1
  obtain ⟨x2, rfl, rfl, rfl, w2⟩ := open_int Tryz.underlying3 (hval 2 3 v2 rfl rfl) h2
  simp only [List.append_nil] at hW'
  refine (walk x0 x1 x2 W).mono fun e W' ⟨he, hw⟩ => ?_
  subst he
  refine ⟨_, rfl, _, _, _, [], [], [], hW', ?_, ?_, ?_, World.keptBut_mono (fun _ f => f.elim) hw, fun h => by cases h⟩
  · exact trodAll_mk1 (shut_bool Tryz.underlying4 true)
  · exact trodAll_mk3 (Go.ChangeMaps.shut_string Tryz.underlying9 w0) (Go.ChangeMaps.shut_string Tryz.underlying9 w1) (shut_int Tryz.underlying3 w2)
  · rfl

theorem said : Rows.StoreNilSaid :=
  OpenClaim.holds_of_wide 5 Tryz.f5 rfl rfl rfl rfl rfl rfl rfl ⟨rfl, rfl, rfl, rfl, rfl⟩ rfl rfl rfl rfl rfl (by kernel_rfl) Tryz.func5 (by kernel_rfl)
    (of_decide_eq_true (by kernel_rfl)) (by unfold Func.isWrapper; first | (rw [if_pos (by decide +kernel)]; kernel_rfl) | (rw [if_neg (by decide +kernel)]; exact ⟨rfl, rfl⟩))
    (fun os started H enc _ => lifted os started H enc)
theorem plain (f : FuncId) (fn : Func) (hf : Tryz.pinned.checked.prog.funcNamed "ogham/oghamlaw23.StoreNil" = some f) (hfn : Tryz.pinned.checked.prog.funcs[f]? = some fn) :
    true = Tryz.pinned.checked.prog.looks [] ∧ ∀ (j : Nat) t, fn.params[j]? = some t → Tryz.pinned.checked.prog.wantsStandIn t = false := by
  obtain rfl : f = 5 := Option.some.inj ((show Tryz.prog.funcNamed "ogham/oghamlaw23.StoreNil" = some 5 by kernel_rfl).symm.trans hf) |>.symm
  obtain rfl : fn = Tryz.f5 := (Option.some.inj (Tryz.func5.symm.trans hfn)).symm
  refine ⟨by kernel_rfl, fun j t ht => ?_⟩
  rw [Tryz.params5] at ht
  have hm := Array.mem_of_getElem? ht
  simp only [List.mem_toArray, List.mem_cons, List.not_mem_nil, or_false] at hm
  rcases hm with rfl | rfl | rfl
  · exact (show Tryz.prog.wantsStandIn 9 = false by kernel_rfl)
  · exact (show Tryz.prog.wantsStandIn 9 = false by kernel_rfl)
  · exact (show Tryz.prog.wantsStandIn 3 = false by kernel_rfl)
/-- THE CARD -/
theorem card : Rows.StoreNilCardSaid :=
  Claim7.holds_tied_plain_at .later [] _ _ _ _ said (fun _ h => by cases h) (by kernel_rfl) (fun _ h => by cases h) storeNil_row_tie rfl ⟨rfl, rfl⟩ (by kernel_rfl) rfl plain (by kernel_rfl)
#print axioms card
end Go.Proofs.YthkkkmkcjgaghaaGreatDoor.storeNil
