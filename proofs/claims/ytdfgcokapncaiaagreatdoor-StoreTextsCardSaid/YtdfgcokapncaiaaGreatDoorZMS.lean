/- oghamlaw23.StoreTexts answers true for every input: the tied card. No condition beyond the row's own. -/
import Derived.Test.YtdfgcokapncaiaaGreatDoorCards
import Derived.Test.YtdfgcokapncaiaaGreatDoorTie
import Derived.WalkKit
import Derived.ProofKit
import Derived.OpenShut
import Derived.Carry
import Derived.LaidMore
import Derived.Lay
import Derived.SevenTiedAt
import Derived.Stop.Joined
import Derived.Test.YtdfgcokapncaiaaGreatDoorQ5
set_option maxRecDepth 100000
set_option maxHeartbeats 0
set_option linter.all false
namespace Go.Proofs.YtdfgcokapncaiaaGreatDoor.storeTexts
open Go Go.Og Go.ChangeShapes Go.WideShapes Go.ChangeAt Go.RowKit

/-! ### what the evaluator answers -/

/-! ### the model -/
theorem globLt : ∀ g, glob g = true → g < 8 := fun g hg => by simpa [glob] using hg
theorem sound3 (E : List (Nat × Blk)) : SoundFn Tryz.prog E glob 3 (F3 E (TW 60) (drawW E (TW 60)) 100000) := SF3 E (TW 60) (fun f => (TW_ok 60 f).ofNil E) 100000
theorem walk (x0 : Bool) (x1 : Value) (hx1 : x1 = .slice none 0 0 ∨ ∃ blk off len cap, x1 = .slice (some ⟨blk, off, none⟩) len cap) (w : World)
    (hrow : ∀ blk off len cap, x1 = .slice (some ⟨blk, off, none⟩) len cap → ∃ B : Nat → Int, ∀ i, i < len → w.cell? ⟨blk, off + i, none⟩ = some (.int .u8 (B i)) ∧ (Lit.int .u8 (B i)).wf = true) :
    Calls Tryz.prog 3 #[.bool x0, x1] w fun e w' => e = .returned (.bool true) ∧ RowKit.Below w.heap.size w w' := by
  rcases hx1 with rfl | ⟨blk, off, len, cap, rfl⟩
  · exact law_belowE (sound3 []) globLt (by decide : 8 ≤ 100) [] [.bool x0, .nils] [.bool x0, .slice none 0 0] w (fun id i h => by simp [Go.Og.look] at h) (fun id b hb => by simp [Go.Og.look] at hb) (by simp [concs, conc, argR, Go.Og.look])
      (lawW (bs := []) (White.mk (fun _ => rfl) (fun _ _ h => absurd h (Nat.not_lt_zero _)) (fun h => (h rfl).elim)) x0)
  obtain ⟨B, hB⟩ := hrow blk off len cap rfl
  have hlk : ∀ id i, Go.Og.look [(50, (⟨blk, off, 0⟩ : BI))] id = some i → id < 100 := fun id i h => by
    simp only [Go.Og.look] at h
    split at h
    · rename_i he; have := Nat.eq_of_beq_eq_true he; omega
    · cases h
  have hC : ∀ i, i < len → w.cell? ⟨blk, off + i, none⟩ = some (.int .u8 (Int.ofNat (B i).toNat)) := fun i hi => by
    obtain ⟨h1, h2⟩ := hB i hi
    have h0 : 0 ≤ B i := by
      have h3 : (decide (IntKind.min .u8 ≤ B i) && decide (B i ≤ IntKind.max .u8)) = true := h2
      simp only [Bool.and_eq_true, decide_eq_true_eq] at h3
      exact h3.1
    rw [h1]
    exact congrArg (fun n => some (Value.int .u8 n)) (Int.toNat_of_nonneg h0).symm
  let bs : List Nat := (List.range len).map fun i => (B i).toNat
  have hbl : bs.length = len := by simp [bs]
  have hW : ∀ E : List (Nat × Blk), (bs ≠ [] → lookF E 50 = some (.cells (bs.map fun k => .int .u8 (Int.ofNat k)))) → White E (.sl 50 0 len (.ex cap)) bs := fun E hE => by
    refine ⟨fun κ => ?_, fun i κ hi => ?_, hE⟩
    · show κ len = _
      rw [hbl]
    · rw [iaddrSK_lt (by omega)]
      show κ 50 (0 + i * 1) = _
      rw [Nat.zero_add, Nat.mul_one]
  by_cases h0 : len = 0
  · exact law_belowE (sound3 []) globLt (by decide : 8 ≤ 100) [(50, ⟨blk, off, 0⟩)] [.bool x0, .sl 50 0 len (.ex cap)] [.bool x0, .slice (some ⟨blk, off, none⟩) len cap] w hlk (fun id b hb => by simp [Go.Og.look] at hb) (by simp [concs, conc, argR, Go.Og.look])
      (lawW (hW [] fun h => (h (List.eq_nil_of_length_eq_zero (by omega))).elim) x0)
  · refine law_belowE (sound3 [(50, .cells ((List.range len).map fun i => .int .u8 (Int.ofNat (B i).toNat)))]) globLt (by decide : 8 ≤ 100) [(50, ⟨blk, off, 0⟩)] [.bool x0, .sl 50 0 len (.ex cap)] [.bool x0, .slice (some ⟨blk, off, none⟩) len cap] w hlk
      (ext_one rfl (ext_list (g := fun i => .int .u8 (Int.ofNat (B i).toNat)) (fun i => ⟨rfl, rfl⟩) hC h0)) (by simp [concs, conc, argR, Go.Og.look])
      (lawW (hW _ fun _ => ?_) x0)
    rw [lookF_cons, if_pos rfl]
    simp [bs, List.map_map, Function.comp_def]
theorem laidOut : laidOutB Tryz.prog = true := by kernel_rfl
theorem own : ownKnob Tryz.prog.godebug = none := by kernel_rfl
theorem lifted (os : Os) (started : os.Started) (H : Type) (enc : TypeId × Value → H) :
    ReturnsInHanded {} Tryz.checked os 3 .any (fun w args => (Rows.storeTextsSpec.pre enc Tryz.prog Tryz.f3 Rows.storeTextsRow.domain false w args ∧ laidMetH Tryz.prog Rows.storeTextsRow.laid w) ∧ sizedMet enc Tryz.prog Tryz.f3 (OpenSpec.ofChange Rows.storeTextsSpec) false w args)
      (Rows.storeTextsSpec.post enc Tryz.prog Tryz.f3 false true false false) := by
  refine returnsInHanded_of_change_and (C := Tryz.checked) (X := fun w _ => laidMetH Tryz.prog Rows.storeTextsRow.laid w) (fun _ _ _ hh h => h.of_heap hh) own started (by kernel_rfl) Tryz.func3
    (ChangeSpec.witness_shaped (enc := enc) (C := Tryz.checked) (os := os) (X := fun w _ => laidMetH Tryz.prog Rows.storeTextsRow.laid w) false (World.laidAll Tryz.prog os Rows.storeTextsRow.laid) #[.bool false, .slice none 0 0] 8 (World.laidAll_os _ _ _)
      (World.shaped_of_ZipB (by kernel_rfl) (by kernel_rfl)) (by kernel_rfl) (by kernel_rfl) (by kernel_rfl)
      (by rw [MakeChecks.laidMetH_plain _ _ _ (by kernel_rfl)]; exact laidMet_laidAll _ (by kernel_rfl) (by kernel_rfl))) ?_
  intro W base args ds gs before hval0 hW hc _ hL _
  have hval : ∀ (j : Nat) t v, Tryz.f3.params[j]? = some t → args[j]? = some v → Value.okWide Tryz.prog W .any base t v := hval0
  have hW' := hW
  obtain ⟨p, q, hA0, hV, rfl, _, _⟩ := hW
  have hA : DataW.TrodAll enc Tryz.prog W 0 (fun _ => true) true Tryz.f3.params.toList args.toList ds p := hA0
  have hlt : ∀ y ∈ p, y.block < W.heap.size := DataW.TrodAll.lt hA
  rw [Tryz.params3] at hA hval
  obtain ⟨v0, x1, d0, d1, p0, p1, rfl, rfl, rfl, h0, h1⟩ := trodAll_two hA
  obtain ⟨rfl, rfl⟩ := trodVars_none hV
  obtain ⟨x0, rfl⟩ := okWide_bool Tryz.underlying4 (hval 0 4 v0 rfl rfl)
  have hx1 := cell_slice Tryz.underlying22 (by have h := hval 1 22 x1 rfl rfl; unfold Value.okWide at h; rw [Tryz.underlying22] at h; exact h)
  simp only [List.append_nil] at hW'
  refine (walk x0 x1 hx1 W (fun blk off len cap e => by subst e; exact row_ints Tryz.underlying22 Tryz.underlying5 (by kernel_rfl) h1)).mono fun e W' ⟨he, hb⟩ => ?_
  subst he
  refine ⟨_, rfl, _, _, _, [], p0 ++ p1, [], hW', ?_, ?_, ?_, World.keptBut_mono (fun _ f => f.elim) (hb.frame (fun _ => False)), fun h => by cases h⟩
  · exact trodAll_mk1 (shut_bool Tryz.underlying4 true)
  · exact trodAll_mk2 (Below.trod laidOut (by kernel_rfl) (of_decide_eq_true (by kernel_rfl)) h0 hb (fun y hy => hlt y (by simp [hy]))) (Below.trod laidOut (by kernel_rfl) (of_decide_eq_true (by kernel_rfl)) h1 hb (fun y hy => hlt y (by simp [hy])))
  · rfl

theorem said : Rows.StoreTextsSaid :=
  OpenClaim.holds_of_wide 3 Tryz.f3 rfl rfl rfl rfl rfl rfl rfl ⟨rfl, rfl, rfl, rfl, rfl⟩ rfl rfl rfl rfl rfl (by kernel_rfl) Tryz.func3 (by kernel_rfl)
    (of_decide_eq_true (by kernel_rfl)) (by unfold Func.isWrapper; first | (rw [if_pos (by decide +kernel)]; kernel_rfl) | (rw [if_neg (by decide +kernel)]; exact ⟨rfl, rfl⟩))
    (fun os started H enc _ => lifted os started H enc)
theorem plain (f : FuncId) (fn : Func) (hf : Tryz.pinned.checked.prog.funcNamed Rows.storeTextsRow.func = some f) (hfn : Tryz.pinned.checked.prog.funcs[f]? = some fn) :
    true = Tryz.pinned.checked.prog.looks [] ∧ ∀ (j : Nat) t, fn.params[j]? = some t → Tryz.pinned.checked.prog.wantsStandIn t = false := by
  obtain rfl : f = 3 := Option.some.inj ((show Tryz.prog.funcNamed Rows.storeTextsRow.func = some 3 by kernel_rfl).symm.trans hf) |>.symm
  obtain rfl : fn = Tryz.f3 := (Option.some.inj (Tryz.func3.symm.trans hfn)).symm
  refine ⟨by kernel_rfl, fun j t ht => ?_⟩
  rw [Tryz.params3] at ht
  have hm := Array.mem_of_getElem? ht
  simp only [List.mem_toArray, List.mem_cons, List.not_mem_nil, or_false] at hm
  rcases hm with rfl | rfl
  · exact (show Tryz.prog.wantsStandIn 4 = false by kernel_rfl)
  · exact (show Tryz.prog.wantsStandIn 22 = false by kernel_rfl)
/-- THE CARD -/
theorem card : Rows.StoreTextsCardSaid :=
  Claim7.holds_tied_plain_at .later [] _ _ _ _ said (fun _ h => by cases h) (by kernel_rfl) (fun _ h => by cases h) storeTexts_row_tie rfl ⟨rfl, rfl⟩ (by kernel_rfl) rfl plain (by kernel_rfl)
#print axioms card
end Go.Proofs.YtdfgcokapncaiaaGreatDoor.storeTexts
