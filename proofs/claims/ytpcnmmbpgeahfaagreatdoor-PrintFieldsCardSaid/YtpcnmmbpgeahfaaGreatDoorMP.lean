/- oghamlaw06.PrintFields answers true for every input: the tied card. No condition beyond the row's own. -/
import Derived.Test.YtpcnmmbpgeahfaaGreatDoorPR
import Derived.Test.YtpcnmmbpgeahfaaGreatDoorOgE
import Derived.Test.YtpcnmmbpgeahfaaGreatDoorCards
import Derived.Test.YtpcnmmbpgeahfaaGreatDoorTie
import Derived.WalkKit
import Derived.ProofKit
import Derived.OpenShut
import Derived.Carry
import Derived.LaidMore
import Derived.Lay
import Derived.SevenTiedAt
import Derived.Stop.Joined
set_option maxRecDepth 100000
set_option maxHeartbeats 0
set_option linter.all false
namespace Go.Proofs.YtpcnmmbpgeahfaaGreatDoor.printFields
open Go Go.Og Go.ChangeShapes Go.WideShapes Go.ChangeAt Go.RowKit

/-! ### what the evaluator answers -/

/-! ### the model -/
theorem walk (x0 : Int) (x1 : Int) (x2 : Value) (x3 : Int) (hx2 : x2 = .slice none 0 0 ∨ ∃ blk off len cap, x2 = .slice (some ⟨blk, off, none⟩) len cap) (w : World)
    (hrow : ∀ blk off len cap, x2 = .slice (some ⟨blk, off, none⟩) len cap → ∃ B : Nat → Bool, ∀ i, i < len → w.cell? ⟨blk, off + i, none⟩ = some (.bool (B i))) :
    Calls Tryz.prog 4 #[.int .i64 x0, .int .i64 x1, x2, .int .i64 x3] w fun e w' => e = .returned (.bool true) ∧ RowKit.Below w.heap.size w w' := by
  rcases hx2 with rfl | ⟨blk, off, len, cap, rfl⟩
  · exact law_belowE (sound4 []) globLt (by decide : 8 ≤ 100) [] [.int .i64 x0, .int .i64 x1, .nils, .int .i64 x3] [.int .i64 x0, .int .i64 x1, .slice none 0 0, .int .i64 x3] w (fun id i h => by simp [Go.Og.look] at h) (fun id b hb => by simp [Go.Og.look] at hb) (by simp [concs, conc, argR, Go.Og.look]) (lawP .nil x0 x1 x3)
  obtain ⟨B, hB⟩ := hrow blk off len cap rfl
  have hlk : ∀ id i, Go.Og.look [(50, (⟨blk, off, 0⟩ : BI))] id = some i → id < 100 := fun id i h => by
    simp only [Go.Og.look] at h
    split at h
    · rename_i he; have := Nat.eq_of_beq_eq_true he; omega
    · cases h
  match len, hB with
  | 0, hB => exact law_belowE (sound4 []) globLt (by decide : 8 ≤ 100) [(50, ⟨blk, off, 0⟩)] [.int .i64 x0, .int .i64 x1, .sl 50 0 (0) (.ex cap), .int .i64 x3] [.int .i64 x0, .int .i64 x1, .slice (some ⟨blk, off, none⟩) (0) cap, .int .i64 x3] w hlk (fun id b hb => by simp [Go.Og.look] at hb) (by simp [concs, conc, argR, Go.Og.look]) (lawP (.l0 cap) x0 x1 x3)
  | 1, hB => exact law_belowE (sound4 [(50, .cells [.bool (B 0)])]) globLt (by decide : 8 ≤ 100) [(50, ⟨blk, off, 0⟩)] [.int .i64 x0, .int .i64 x1, .sl 50 0 (1) (.ex cap), .int .i64 x3] [.int .i64 x0, .int .i64 x1, .slice (some ⟨blk, off, none⟩) (1) cap, .int .i64 x3] w hlk (ext_one rfl (show ExtOk _ ⟨blk, off, 0⟩ (.cells [.bool (B 0)]) w from ext_bools hB (n := 1) (by decide) (by omega))) (by simp [concs, conc, argR, Go.Og.look]) (lawP (.l1 cap (B 0)) x0 x1 x3)
  | 2, hB => exact law_belowE (sound4 [(50, .cells [.bool (B 0), .bool (B 1)])]) globLt (by decide : 8 ≤ 100) [(50, ⟨blk, off, 0⟩)] [.int .i64 x0, .int .i64 x1, .sl 50 0 (2) (.ex cap), .int .i64 x3] [.int .i64 x0, .int .i64 x1, .slice (some ⟨blk, off, none⟩) (2) cap, .int .i64 x3] w hlk (ext_one rfl (show ExtOk _ ⟨blk, off, 0⟩ (.cells [.bool (B 0), .bool (B 1)]) w from ext_bools hB (n := 2) (by decide) (by omega))) (by simp [concs, conc, argR, Go.Og.look]) (lawP (.l2 cap (B 0) (B 1)) x0 x1 x3)
  | 3, hB => exact law_belowE (sound4 [(50, .cells [.bool (B 0), .bool (B 1), .bool (B 2)])]) globLt (by decide : 8 ≤ 100) [(50, ⟨blk, off, 0⟩)] [.int .i64 x0, .int .i64 x1, .sl 50 0 (3) (.ex cap), .int .i64 x3] [.int .i64 x0, .int .i64 x1, .slice (some ⟨blk, off, none⟩) (3) cap, .int .i64 x3] w hlk (ext_one rfl (show ExtOk _ ⟨blk, off, 0⟩ (.cells [.bool (B 0), .bool (B 1), .bool (B 2)]) w from ext_bools hB (n := 3) (by decide) (by omega))) (by simp [concs, conc, argR, Go.Og.look]) (lawP (.l3 cap (B 0) (B 1) (B 2)) x0 x1 x3)
  | n + 4, hB => exact law_belowE (sound4 [(50, .cells [.bool (B 0), .bool (B 1), .bool (B 2), .bool (B 3)])]) globLt (by decide : 8 ≤ 100) [(50, ⟨blk, off, 0⟩)] [.int .i64 x0, .int .i64 x1, .sl 50 0 (Nat.add n 4) (.ex cap), .int .i64 x3] [.int .i64 x0, .int .i64 x1, .slice (some ⟨blk, off, none⟩) (Nat.add n 4) cap, .int .i64 x3] w hlk (ext_one rfl (show ExtOk _ ⟨blk, off, 0⟩ (.cells [.bool (B 0), .bool (B 1), .bool (B 2), .bool (B 3)]) w from ext_bools hB (n := 4) (by decide) (by omega))) (by simp [concs, conc, argR, Go.Og.look]) (lawP (.l4 n cap (B 0) (B 1) (B 2) (B 3) []) x0 x1 x3)
theorem laidOut : laidOutB Tryz.prog = true := by kernel_rfl
theorem own : ownKnob Tryz.prog.godebug = none := by kernel_rfl
theorem lifted (os : Os) (started : os.Started) (H : Type) (enc : TypeId × Value → H) :
    ReturnsInHanded {} Tryz.checked os 4 .any (fun w args => (Rows.printFieldsSpec.pre enc Tryz.prog Tryz.f4 Rows.printFieldsRow.domain false w args ∧ laidMetH Tryz.prog Rows.printFieldsRow.laid w) ∧ sizedMet enc Tryz.prog Tryz.f4 (OpenSpec.ofChange Rows.printFieldsSpec) false w args)
      (Rows.printFieldsSpec.post enc Tryz.prog Tryz.f4 false true false false) := by
  refine returnsInHanded_of_change_and (C := Tryz.checked) (X := fun w _ => laidMetH Tryz.prog Rows.printFieldsRow.laid w) (fun _ _ _ hh h => h.of_heap hh) own started (by kernel_rfl) Tryz.func4
    (ChangeSpec.witness_shaped (enc := enc) (C := Tryz.checked) (os := os) (X := fun w _ => laidMetH Tryz.prog Rows.printFieldsRow.laid w) false (World.laidAll Tryz.prog os Rows.printFieldsRow.laid) #[.int .i64 0, .int .i64 0, .slice none 0 0, .int .i64 0] 8 (World.laidAll_os _ _ _)
      (World.shaped_of_ZipB (by kernel_rfl) (by kernel_rfl)) (by kernel_rfl) (by kernel_rfl) (by kernel_rfl)
      (by rw [MakeChecks.laidMetH_plain _ _ _ (by kernel_rfl)]; exact laidMet_laidAll _ (by kernel_rfl) (by kernel_rfl))) ?_
  intro W base args ds gs before hval0 hW hc _ hL _
  have hval : ∀ (j : Nat) t v, Tryz.f4.params[j]? = some t → args[j]? = some v → Value.okWide Tryz.prog W .any base t v := hval0
  have hW' := hW
  obtain ⟨p, q, hA0, hV, rfl, _, _⟩ := hW
  have hA : DataW.TrodAll enc Tryz.prog W 0 (fun _ => true) true Tryz.f4.params.toList args.toList ds p := hA0
  have hlt : ∀ y ∈ p, y.block < W.heap.size := DataW.TrodAll.lt hA
  rw [Tryz.params4] at hA hval
  obtain ⟨v0, v1, x2, v3, d0, d1, d2, d3, p0, p1, p2, p3, rfl, rfl, rfl, h0, h1, h2, h3⟩ := trodAll_four hA
  obtain ⟨rfl, rfl⟩ := trodVars_none hV
  obtain ⟨x0, rfl⟩ := cell_int Tryz.underlying3 (by have h := hval 0 3 v0 rfl rfl; unfold Value.okWide at h; rw [Tryz.underlying3] at h; exact h)
  obtain ⟨x1, rfl⟩ := cell_int Tryz.underlying3 (by have h := hval 1 3 v1 rfl rfl; unfold Value.okWide at h; rw [Tryz.underlying3] at h; exact h)
  have hx2 := cell_slice Tryz.underlying35 (by have h := hval 2 35 x2 rfl rfl; unfold Value.okWide at h; rw [Tryz.underlying35] at h; exact h)
  obtain ⟨x3, rfl⟩ := cell_int Tryz.underlying3 (by have h := hval 3 3 v3 rfl rfl; unfold Value.okWide at h; rw [Tryz.underlying3] at h; exact h)
  simp only [List.append_nil] at hW'
  refine (walk x0 x1 x2 x3 hx2 W (fun blk off len cap e => by subst e; exact row_bools Tryz.underlying35 Tryz.underlying4 (by kernel_rfl) h2)).mono fun e W' ⟨he, hb⟩ => ?_
  subst he
  refine ⟨_, rfl, _, _, _, [], p0 ++ (p1 ++ (p2 ++ p3)), [], hW', ?_, ?_, ?_, World.keptBut_mono (fun _ f => f.elim) (hb.frame (fun _ => False)), fun h => by cases h⟩
  · exact trodAll_mk1 (shut_bool Tryz.underlying4 true)
  · exact trodAll_mk4 (Below.trod laidOut (by kernel_rfl) (of_decide_eq_true (by kernel_rfl)) h0 hb (fun y hy => hlt y (by simp [hy]))) (Below.trod laidOut (by kernel_rfl) (of_decide_eq_true (by kernel_rfl)) h1 hb (fun y hy => hlt y (by simp [hy]))) (Below.trod laidOut (by kernel_rfl) (of_decide_eq_true (by kernel_rfl)) h2 hb (fun y hy => hlt y (by simp [hy]))) (Below.trod laidOut (by kernel_rfl) (of_decide_eq_true (by kernel_rfl)) h3 hb (fun y hy => hlt y (by simp [hy])))
  · rfl

theorem said : Rows.PrintFieldsSaid :=
  OpenClaim.holds_of_wide 4 Tryz.f4 rfl rfl rfl rfl rfl rfl rfl ⟨rfl, rfl, rfl, rfl, rfl⟩ rfl rfl rfl rfl rfl (by kernel_rfl) Tryz.func4 (by kernel_rfl)
    (of_decide_eq_true (by kernel_rfl)) (by unfold Func.isWrapper; first | (rw [if_pos (by decide +kernel)]; kernel_rfl) | (rw [if_neg (by decide +kernel)]; exact ⟨rfl, rfl⟩))
    (fun os started H enc _ => lifted os started H enc)
theorem plain (f : FuncId) (fn : Func) (hf : Tryz.pinned.checked.prog.funcNamed Rows.printFieldsRow.func = some f) (hfn : Tryz.pinned.checked.prog.funcs[f]? = some fn) :
    true = Tryz.pinned.checked.prog.looks [] ∧ ∀ (j : Nat) t, fn.params[j]? = some t → Tryz.pinned.checked.prog.wantsStandIn t = false := by
  obtain rfl : f = 4 := Option.some.inj ((show Tryz.prog.funcNamed Rows.printFieldsRow.func = some 4 by kernel_rfl).symm.trans hf) |>.symm
  obtain rfl : fn = Tryz.f4 := (Option.some.inj (Tryz.func4.symm.trans hfn)).symm
  refine ⟨by kernel_rfl, fun j t ht => ?_⟩
  rw [Tryz.params4] at ht
  have hm := Array.mem_of_getElem? ht
  simp only [List.mem_toArray, List.mem_cons, List.not_mem_nil, or_false] at hm
  rcases hm with rfl | rfl | rfl | rfl
  · exact (show Tryz.prog.wantsStandIn 3 = false by kernel_rfl)
  · exact (show Tryz.prog.wantsStandIn 3 = false by kernel_rfl)
  · exact (show Tryz.prog.wantsStandIn 35 = false by kernel_rfl)
  · exact (show Tryz.prog.wantsStandIn 3 = false by kernel_rfl)
/-- THE CARD -/
theorem card : Rows.PrintFieldsCardSaid :=
  Claim7.holds_tied_plain_at .later [] _ _ _ _ said (fun _ h => by cases h) (by kernel_rfl) (fun _ h => by cases h) printFields_row_tie rfl ⟨rfl, rfl⟩ (by kernel_rfl) rfl plain (by kernel_rfl)
#print axioms card
end Go.Proofs.YtpcnmmbpgeahfaaGreatDoor.printFields
