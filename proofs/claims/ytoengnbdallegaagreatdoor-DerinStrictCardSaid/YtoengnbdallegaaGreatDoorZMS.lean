/- oghamlaw16.DerinStrict answers true for every input: the tied card. No condition beyond the row's own. -/
import Derived.Test.YtoengnbdallegaaGreatDoorCards
import Derived.Test.YtoengnbdallegaaGreatDoorTie
import Derived.WalkKit
import Derived.ProofKit
import Derived.OpenShut
import Derived.Carry
import Derived.LaidMore
import Derived.Lay
import Derived.SevenTiedAt
import Derived.Stop.Joined
import Derived.Test.YtoengnbdallegaaGreatDoorQ6
open Int renaming ofNat -> AA
open Bool renaming and_eq_true -> AJ
open Option renaming some -> AM
open List renaming mem_cons -> Al, append_nil -> CZ, not_mem_nil -> EU
open Array renaming mem_of_getElem? -> Jb
set_option maxRecDepth 100000
set_option maxHeartbeats 0
set_option linter.all false
namespace Go.Proofs.YtoengnbdallegaaGreatDoor.derinStrict
open Go Go.Og Go.ChangeShapes Go.WideShapes Go.ChangeAt Go.RowKit
theorem uk {n : Int} (h : (Lit.int .i64 n).wf = true) : DQ n := by
 have h3 : (decide (IntKind.min .i64 ≤ n) && decide (n ≤ IntKind.max .i64)) = true := h
 simp only [AJ, decide_eq_true_eq] at h3
 exact h3
theorem Uz {H : Type} {enc : TypeId × Value → H} {P : Program} {w : World} {t : TypeId} {k : IntKind} {x : Int} {d : DataW H} {ps : List MemPlace} (he : P.underlying t = some (.int k)) (h : DataW.Trod enc P w 0 (fun _ => true) true t (.int k x) d ps) : (Lit.int k x).wf = true := by
 obtain ⟨n, h⟩ := h
 cases n with
 | zero => simp [DataW.trod] at h
 | succ n =>
  unfold DataW.trod at h
  rw [he] at h
  simp only [Value.cells] at h
  split at h <;> simp_all
theorem uj {n : Int} (h : (Lit.int .u8 n).wf = true) : ∃ y : Nat, y < 256 ∧ n = AA y := by
 have h3 : (decide (IntKind.min .u8 ≤ n) && decide (n ≤ IntKind.max .u8)) = true := h
 simp only [AJ, decide_eq_true_eq] at h3
 obtain ⟨h1, h2⟩ := h3
 have h1 : 0 ≤ n := h1
 have h2 : n ≤ 255 := h2
 obtain ⟨y, rfl⟩ := Int.eq_ofNat_of_zero_le h1
 exact ⟨y, by omega, rfl⟩
theorem AC4 (x0 x1 x2 : Int) (w : World) (i0 : DQ x0) (i1 : ∃ y : Nat, y < 256 ∧ x1 = AA y) : Calls Tryz.prog 3 #[.int .i64 x0, .int .u8 x1, .int .i64 x2] w fun e w' => e = .returned (.bool true) ∧ RowKit.Below w.heap.size w w' := by
 obtain ⟨y, hy, rfl⟩ := i1
 exact W4 (SF3 [] (TW [] 59) (wS [] 59) 600000) Yy (by decide : 2 ≤ 100) [] [.int .i64 x0, .int .u8 (AA y), .int .i64 x2] [.int .i64 x0, .int .u8 (AA y), .int .i64 x2] w (fun id i h => by simp [Go.Og.look] at h) (by simp [Aw, An]) (oW i0 hy x2)
theorem Qv : laidOutB Tryz.prog = true := by kernel_rfl
theorem own : ownKnob Tryz.prog.godebug = none := by kernel_rfl
theorem oG (os : Os) (started : os.Started) (H : Type) (enc : TypeId × Value → H) :
    ReturnsInHanded {} Tryz.checked os 3 .any (fun w args => (Rows.derinStrictSpec.pre enc Tryz.prog Tryz.f3 Rows.derinStrictRow.domain false w args ∧ laidMetH Tryz.prog Rows.derinStrictRow.laid w) ∧ sizedMet enc Tryz.prog Tryz.f3 (OpenSpec.ofChange Rows.derinStrictSpec) false w args)
      (Rows.derinStrictSpec.post enc Tryz.prog Tryz.f3 false true false false) := by
  refine returnsInHanded_of_change_and (C := Tryz.checked) (X := fun w _ => laidMetH Tryz.prog Rows.derinStrictRow.laid w) (fun _ _ _ hh h => h.of_heap hh) own started (by kernel_rfl) Tryz.func3
    (ChangeSpec.witness_shaped (enc := enc) (C := Tryz.checked) (os := os) (X := fun w _ => laidMetH Tryz.prog Rows.derinStrictRow.laid w) false (World.laidAll Tryz.prog os Rows.derinStrictRow.laid) #[.int .i64 0, .int .u8 0, .int .i64 0] 8 (World.laidAll_os _ _ _)
      (World.shaped_of_ZipB (by kernel_rfl) (by kernel_rfl)) (by kernel_rfl) (by kernel_rfl) (by kernel_rfl)
      (by rw [MakeChecks.laidMetH_plain _ _ _ (by kernel_rfl)]; exact laidMet_laidAll _ (by kernel_rfl) (by kernel_rfl))) ?_
  intro W base args ds gs before hval0 hW hc _ hL _
  have hval : ∀ (j : Nat) t v, Tryz.f3.params[j]? = some t → args[j]? = some v → Value.okWide Tryz.prog W .any base t v := hval0
  have hW' := hW
  obtain ⟨p, q, hA0, hV, rfl, _, _⟩ := hW
  have hA : DataW.TrodAll enc Tryz.prog W 0 (fun _ => true) true Tryz.f3.params.toList args.toList ds p := hA0
  have hlt : ∀ y ∈ p, y.block < W.heap.size := DataW.TrodAll.lt hA
  rw [Tryz.params3] at hA hval
  obtain ⟨v0, v1, v2, d0, d1, d2, p0, p1, p2, rfl, rfl, rfl, h0, h1, h2⟩ := trodAll_three hA
  obtain ⟨rfl, rfl⟩ := trodVars_none hV
  obtain ⟨x0, rfl⟩ := OD Tryz.underlying2 (by have h := hval 0 2 v0 rfl rfl; unfold Value.okWide at h; rw [Tryz.underlying2] at h; exact h)
  obtain ⟨x1, rfl⟩ := OD Tryz.underlying5 (by have h := hval 1 5 v1 rfl rfl; unfold Value.okWide at h; rw [Tryz.underlying5] at h; exact h)
  obtain ⟨x2, rfl⟩ := OD Tryz.underlying3 (by have h := hval 2 3 v2 rfl rfl; unfold Value.okWide at h; rw [Tryz.underlying3] at h; exact h)
  simp only [CZ] at hW'
  refine (AC4 x0 x1 x2 W (uk (Uz Tryz.underlying2 h0)) (uj (Uz Tryz.underlying5 h1))).mono fun e W' ⟨he, hb⟩ => ?_
  subst he
  refine ⟨_, rfl, _, _, _, [], p0 ++ (p1 ++ p2), [], hW', ?_, ?_, ?_, World.keptBut_mono (fun _ f => f.elim) (hb.frame (fun _ => False)), fun h => by cases h⟩
  · exact trodAll_mk1 (shut_bool Tryz.underlying4 true)
  · exact trodAll_mk3 (Below.trod Qv (by kernel_rfl) (of_decide_eq_true (by kernel_rfl)) h0 hb (fun y hy => hlt y (by simp [hy]))) (Below.trod Qv (by kernel_rfl) (of_decide_eq_true (by kernel_rfl)) h1 hb (fun y hy => hlt y (by simp [hy]))) (Below.trod Qv (by kernel_rfl) (of_decide_eq_true (by kernel_rfl)) h2 hb (fun y hy => hlt y (by simp [hy])))
  · rfl
theorem AC8 : Rows.DerinStrictSaid :=
 OpenClaim.holds_of_wide 3 Tryz.f3 rfl rfl rfl rfl rfl rfl rfl ⟨rfl, rfl, rfl, rfl, rfl⟩ rfl rfl rfl rfl rfl (by kernel_rfl) Tryz.func3 (by unfold joinedFacts; rw [W5, Qw, Tc, SF]; kernel_rfl)
  (of_decide_eq_true (by kernel_rfl)) (by unfold Func.isWrapper; first | (rw [if_pos (by decide +kernel)]; kernel_rfl) | (rw [if_neg (by decide +kernel)]; exact ⟨rfl, rfl⟩))
  (fun os started H enc _ => oG os started H enc)
theorem U8 (f : FuncId) (fn : Func) (hf : Tryz.pinned.checked.prog.funcNamed Rows.derinStrictRow.func = some f) (hfn : Tryz.pinned.checked.prog.funcs[f]? = some fn) :
  false = Tryz.pinned.checked.prog.looks [] ∧ ∀ (j : Nat) t, fn.params[j]? = some t → Tryz.pinned.checked.prog.wantsStandIn t = false := by
 obtain rfl : f = 3 := AM.inj ((show Tryz.prog.funcNamed Rows.derinStrictRow.func = some 3 by kernel_rfl).symm.trans hf) |>.symm
 obtain rfl : fn = Tryz.f3 := (AM.inj (Tryz.func3.symm.trans hfn)).symm
 refine ⟨by kernel_rfl, fun j t ht => ?_⟩
 rw [Tryz.params3] at ht
 have hm := Jb ht
 simp only [List.mem_toArray, Al, EU, or_false] at hm
 rcases hm with rfl | rfl | rfl
 ·exact (show Tryz.prog.wantsStandIn 2 = false by kernel_rfl)
 ·exact (show Tryz.prog.wantsStandIn 5 = false by kernel_rfl)
 ·exact (show Tryz.prog.wantsStandIn 3 = false by kernel_rfl)
theorem card : Rows.DerinStrictCardSaid :=
 Claim7.holds_tied_plain_at .later [] _ _ _ _ AC8 (fun _ h => by cases h) (by kernel_rfl) (fun _ h => by cases h) derinStrict_row_tie rfl ⟨rfl, rfl⟩ (by kernel_rfl) rfl U8 (by kernel_rfl)
#print axioms card
end Go.Proofs.YtoengnbdallegaaGreatDoor.derinStrict
