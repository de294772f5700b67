/- oghamlaw05.SyntaxSound answers true for every input: the tied card. No condition beyond the row's own. -/
import Derived.Test.YtnpcmeaplmfdlaaDoorCards
import Derived.Test.YtnpcmeaplmfdlaaDoorTie
import Derived.WalkKit
import Derived.ProofKit
import Derived.OpenShut
import Derived.Carry
import Derived.LaidMore
import Derived.Lay
import Derived.SevenTiedAt
import Derived.Stop.Joined
import Derived.Test.YtnpcmeaplmfdlaaDoorQ6
open Int renaming ofNat -> AA
open Option renaming some -> AK
open List renaming mem_cons -> BF, mem_singleton -> Cc, append_nil -> Eb, not_mem_nil -> Ey
open Array renaming mem_of_getElem? -> J0
set_option maxRecDepth 100000
set_option maxHeartbeats 0
set_option linter.all false
namespace Go.Proofs.YtnpcmeaplmfdlaaDoor.syntaxSound
open Go Go.Og Go.ChangeShapes Go.WideShapes Go.ChangeAt Go.RowKit
theorem qN {W : World} (h : laidMetH Tryd.prog Rows.syntaxSoundRow.laid W) : (∀ i, i < 256 → W.cell? ⟨0, 0 + i, none⟩ = some (.int .u8 (AA (Gj.getD i 0)))) ∧ (∀ i, i < 32 → W.cell? ⟨1, 0 + i, none⟩ = some (.int .u8 (AA (HB.getD i 0)))) ∧ ∃ a s, W.cell? ⟨3, 0, none⟩ = some (.iface 141 (.pointer (some a))) ∧ W.cell? a = some (.string s) := by
 refine ⟨SP ?_, Wg ?_, Yj (text := [118, 97, 108, 117, 101, 32, 111, 117, 116, 32, 111, 102, 32, 114, 97, 110, 103, 101]) ?_⟩
 ·have h1 := h.filter (fun x => x.1 == "unicode/utf8.first")
  have e : (Rows.syntaxSoundRow.laid.filter fun x => x.1 == "unicode/utf8.first") = [("unicode/utf8.first", Lib.tabData .u8 (Gj.map AA))] := by kernel_rfl
  rw [e, MakeChecks.laidMetH_plain _ _ _ (by kernel_rfl)] at h1
  exact h1
 ·have h1 := h.filter (fun x => x.1 == "unicode/utf8.acceptRanges")
  have e : (Rows.syntaxSoundRow.laid.filter fun x => x.1 == "unicode/utf8.acceptRanges") = [("unicode/utf8.acceptRanges", qX)] := by kernel_rfl
  rw [e, MakeChecks.laidMetH_plain _ _ _ (by kernel_rfl)] at h1
  exact Lib.laidMet.reads h1 (Cc.2 rfl)
 ·have h1 := h.filter (fun x => x.1 == "strconv.ErrRange")
  have e : (Rows.syntaxSoundRow.laid.filter fun x => x.1 == "strconv.ErrRange") = [("strconv.ErrRange", .iface "*errors.errorString" (.ptr (.agg [.lit (.string [118, 97, 108, 117, 101, 32, 111, 117, 116, 32, 111, 102, 32, 114, 97, 110, 103, 101])])))] := by kernel_rfl
  rw [e, MakeChecks.laidMetH_plain _ _ _ (by kernel_rfl)] at h1
  exact h1
theorem XN (x0 : ByteArray) (w : World) (h : laidMetH Tryd.prog Rows.syntaxSoundRow.laid w) : Calls Tryd.prog 3 #[.string x0] w fun e w' => e = .returned (.bool true) ∧ RowKit.Below w.heap.size w w' := by
 obtain ⟨h0, h1, a, s, h3, ha⟩ := qN h
 exact pP x0 w h0 h1 h3 ha
theorem cR : laidOutB Tryd.prog = true := by kernel_rfl
theorem own : ownKnob Tryd.prog.godebug = none := by kernel_rfl
theorem kE (os : Os) (started : os.Started) (H : Type) (enc : TypeId × Value → H) :
    ReturnsInHanded {} Tryd.checked os 3 .any (fun w args => (Rows.syntaxSoundSpec.pre enc Tryd.prog Tryd.f3 Rows.syntaxSoundRow.domain false w args ∧ laidMetH Tryd.prog Rows.syntaxSoundRow.laid w) ∧ sizedMet enc Tryd.prog Tryd.f3 (OpenSpec.ofChange Rows.syntaxSoundSpec) false w args)
      (Rows.syntaxSoundSpec.post enc Tryd.prog Tryd.f3 false true false false) := by
  refine returnsInHanded_of_change_and (C := Tryd.checked) (X := fun w _ => laidMetH Tryd.prog Rows.syntaxSoundRow.laid w) (fun _ _ _ hh h => h.of_heap hh) own started (by kernel_rfl) Tryd.func3
    (ChangeSpec.witness_shaped (enc := enc) (C := Tryd.checked) (os := os) (X := fun w _ => laidMetH Tryd.prog Rows.syntaxSoundRow.laid w) false (World.laidAll Tryd.prog os Rows.syntaxSoundRow.laid) #[.string ⟨#[]⟩] 8 (World.laidAll_os _ _ _)
      (World.shaped_of_ZipB (by kernel_rfl) (by kernel_rfl)) (by kernel_rfl) (by kernel_rfl) (by kernel_rfl)
      (by rw [MakeChecks.laidMetH_plain _ _ _ (by kernel_rfl)]; exact laidMet_laidAll _ (by kernel_rfl) (by kernel_rfl))) ?_
  intro W base args ds gs before hval0 hW hc _ hL _
  have hval : ∀ (j : Nat) t v, Tryd.f3.params[j]? = some t → args[j]? = some v → Value.okWide Tryd.prog W .any base t v := hval0
  have hW' := hW
  obtain ⟨p, q, hA0, hV, rfl, _, _⟩ := hW
  have hA : DataW.TrodAll enc Tryd.prog W 0 (fun _ => true) true Tryd.f3.params.toList args.toList ds p := hA0
  have hlt : ∀ y ∈ p, y.block < W.heap.size := DataW.TrodAll.lt hA
  rw [Tryd.params3] at hA hval
  obtain ⟨v0, d0, rfl, rfl, h0⟩ := trodAll_one hA
  obtain ⟨rfl, rfl⟩ := trodVars_none hV
  obtain ⟨x0, rfl⟩ := Y1 Tryd.underlying9 (by have h := hval 0 9 v0 rfl rfl; unfold Value.okWide at h; rw [Tryd.underlying9] at h; exact h)
  simp only [Eb] at hW'
  refine (XN x0 W hL).mono fun e W' ⟨he, hb⟩ => ?_
  subst he
  refine ⟨_, rfl, _, _, _, [], p, [], hW', ?_, ?_, ?_, World.keptBut_mono (fun _ f => f.elim) (hb.frame (fun _ => False)), fun h => by cases h⟩
  · exact trodAll_mk1 (shut_bool Tryd.underlying4 true)
  · exact trodAll_mk1 (Below.trod cR (by kernel_rfl) (of_decide_eq_true (by kernel_rfl)) h0 hb (fun y hy => hlt y hy))
  · rfl
theorem xr : Rows.SyntaxSoundSaid :=
 OpenClaim.holds_of_wide 3 Tryd.f3 rfl rfl rfl rfl rfl rfl rfl ⟨rfl, rfl, rfl, rfl, rfl⟩ rfl rfl rfl rfl rfl (by kernel_rfl) Tryd.func3 (by kernel_rfl)
  (of_decide_eq_true (by kernel_rfl)) (by unfold Func.isWrapper; first | (rw [if_pos (by decide +kernel)]; kernel_rfl) | (rw [if_neg (by decide +kernel)]; exact ⟨rfl, rfl⟩))
  (fun os started H enc _ => kE os started H enc)
theorem Ub (f : FuncId) (fn : Func) (hf : Tryd.pinned.checked.prog.funcNamed Rows.syntaxSoundRow.func = some f) (hfn : Tryd.pinned.checked.prog.funcs[f]? = some fn) :
  true = Tryd.pinned.checked.prog.looks [] ∧ ∀ (j : Nat) t, fn.params[j]? = some t → Tryd.pinned.checked.prog.wantsStandIn t = false := by
 obtain rfl : f = 3 := AK.inj ((show Tryd.prog.funcNamed Rows.syntaxSoundRow.func = some 3 by kernel_rfl).symm.trans hf) |>.symm
 obtain rfl : fn = Tryd.f3 := (AK.inj (Tryd.func3.symm.trans hfn)).symm
 refine ⟨by kernel_rfl, fun j t ht => ?_⟩
 rw [Tryd.params3] at ht
 have hm := J0 ht
 simp only [List.mem_toArray, BF, Ey, or_false] at hm
 rcases hm with rfl
 ·exact (show Tryd.prog.wantsStandIn 9 = false by kernel_rfl)
theorem card : Rows.SyntaxSoundCardSaid :=
 Claim7.holds_tied_plain_at .later [] _ _ _ _ xr (fun _ h => by cases h) (by kernel_rfl) (fun _ h => by cases h) syntaxSound_row_tie rfl ⟨rfl, rfl⟩ (by kernel_rfl) rfl Ub (by kernel_rfl)
#print axioms card
end Go.Proofs.YtnpcmeaplmfdlaaDoor.syntaxSound
