/- oghamlaw19.UperPreamble answers true for every input: the tied card. No condition beyond the row's own. -/
import Derived.Test.YtgjjnbddbbhloaaGreatDoorCards
import Derived.Test.YtgjjnbddbbhloaaGreatDoorTie
import Derived.WalkKit
import Derived.ProofKit
import Derived.OpenShut
import Derived.Carry
import Derived.LaidMore
import Derived.Lay
import Derived.SevenTiedAt
import Derived.Stop.Joined
import Derived.Test.YtgjjnbddbbhloaaGreatDoorQ5
set_option maxRecDepth 100000
set_option maxHeartbeats 0
set_option linter.all false
namespace Go.Proofs.YtgjjnbddbbhloaaGreatDoor.uperPreamble
open Go Go.Og Go.ChangeShapes Go.WideShapes Go.ChangeAt Go.RowKit
theorem sound4 (E : List (Nat × Blk)) : SoundFn Tryz.prog E glob 4 (F4 E (TW E 60) (drawW E (TW E 60)) 100000) := SF4 E (TW E 60) (TW_ok E 60) 100000
theorem ext_app {R : Ren} {w : World} {E1 E2 : List (Nat × Blk)} (h1 : ∀ id b, Go.Og.look E1 id = some b → ∃ i, R id = some i ∧ ExtOk R i b w) (h2 : ∀ id b, Go.Og.look E2 id = some b → ∃ i, R id = some i ∧ ExtOk R i b w) : ∀ id b, Go.Og.look (E1 ++ E2) id = some b → ∃ i, R id = some i ∧ ExtOk R i b w := by
 intro id b hb
 rw [look_app] at hb
 cases h : Go.Og.look E1 id with
 | some c => rw [h] at hb; cases hb; exact h1 id b h
 | none => rw [h] at hb; exact h2 id b hb
def eOf (q len : Nat) (f : Nat → V) : List (Nat × Blk) := if len = 0 then [] else [(q, .cells ((List.range len).map f))]
theorem arg_of {E : List (Nat × Blk)} {q len cap : Nat} {f : Nat → V} (hE : len ≠ 0 → lookF E q = some (.cells ((List.range len).map f))) : Arg E (.sl q 0 len (.ex cap)) len q f := by
 refine ⟨fun _ => rfl, fun σ i κ hi hn => ?_, rfl⟩
 rw [iaddrSK_lt hi]
 show ldK E σ q (0 + i * 1) κ = _
 unfold ldK rdK
 rw [hn]
 simp only [hE (by omega)]
 refine nthK_of ?_
 rw [nthF_eq, Nat.zero_add, Nat.mul_one, List.getElem?_map, List.getElem?_range hi]; rfl
theorem arg_nil {E : List (Nat × Blk)} {q : Nat} {f : Nat → V} : Arg E .nils 0 q f := ⟨fun _ => rfl, fun _ _ _ h => absurd h (Nat.not_lt_zero _), rfl⟩
theorem ext_of {R : Ren} {w : World} {q blk off len : Nat} {f : Nat → V} {g : Nat → Value} (hR : R q = some ⟨blk, off, 0⟩) (hc : ∀ i, conc R (f i) = some (g i) ∧ (g i).oneCell' = true) (h : ∀ i, i < len → w.cell? ⟨blk, off + i, none⟩ = some (g i)) : ∀ id b, Go.Og.look (eOf q len f) id = some b → ∃ i, R id = some i ∧ ExtOk R i b w := by
 unfold eOf
 by_cases h0 : len = 0
 ·rw [if_pos h0]; intro id b hb; cases hb
 ·rw [if_neg h0]; exact ext_one hR (ext_list hc h h0)
theorem look_eOf1 {q len : Nat} {f : Nat → V} {X : List (Nat × Blk)} (h : len ≠ 0) : lookF (eOf q len f ++ X) q = some (.cells ((List.range len).map f)) := by
 unfold eOf; rw [if_neg h, lookF_eq]; simp [Go.Og.look]
theorem look_eOf2 {q q' len len' : Nat} {f f' : Nat → V} (hq : q' ≠ q) (h : len ≠ 0) : lookF (eOf q' len' f' ++ eOf q len f) q = some (.cells ((List.range len).map f)) := by
 unfold eOf
 rw [if_neg h, lookF_eq]
 split <;> simp [Go.Og.look, hq]
theorem walk (x0 : Value) (x1 : Value) (x2 : Bool) (hx0 : x0 = .slice none 0 0 ∨ ∃ blk off len cap, x0 = .slice (some ⟨blk, off, none⟩) len cap) (hx1 : x1 = .slice none 0 0 ∨ ∃ blk off len cap, x1 = .slice (some ⟨blk, off, none⟩) len cap) (w : World)
  (hr0 : ∀ blk off len cap, x0 = .slice (some ⟨blk, off, none⟩) len cap → ∃ B : Nat → Bool, ∀ i, i < len → w.cell? ⟨blk, off + i, none⟩ = some (.bool (B i)))
  (hr1 : ∀ blk off len cap, x1 = .slice (some ⟨blk, off, none⟩) len cap → ∃ B : Nat → Int, ∀ i, i < len → w.cell? ⟨blk, off + i, none⟩ = some (.int .i64 (B i)) ∧ (Lit.int .i64 (B i)).wf = true) :
  Calls Tryz.prog 4 #[x0, x1, .bool x2] w fun e w' => e = .returned (.bool true) ∧ RowKit.Below w.heap.size w w' := by
 rcases hx0 with rfl | ⟨blk0, off0, len0, cap0, rfl⟩ <;> rcases hx1 with rfl | ⟨blk1, off1, len1, cap1, rfl⟩
 ·exact law_belowE (sound4 []) globLt (by decide : 2 ≤ 100) [] [.nils, .nils, .bool x2] [.slice none 0 0, .slice none 0 0, .bool x2] w (fun id i h => by simp [Go.Og.look] at h) (fun id b hb => by simp [Go.Og.look] at hb) (by simp [concs, conc, argR, Go.Og.look])
   (law_F (vals := fun _ => 0) (there := fun _ => false) arg_nil (fun _ _ => rfl) arg_nil x2)
 ·obtain ⟨A, hA⟩ := hr1 blk1 off1 len1 cap1 rfl
  exact law_belowE (sound4 (eOf 51 len1 fun i => .int .i64 (A i))) globLt (by decide : 2 ≤ 100) [(51, ⟨blk1, off1, 0⟩)] [.nils, .sl 51 0 len1 (.ex cap1), .bool x2] [.slice none 0 0, .slice (some ⟨blk1, off1, none⟩) len1 cap1, .bool x2] w
   (fun id i h => by simp only [Go.Og.look] at h; split at h <;> first | (cases h; done) | (rename_i he; have := Nat.eq_of_beq_eq_true he; omega))
   (ext_of (g := fun i => .int .i64 (A i)) rfl (fun i => ⟨rfl, rfl⟩) (fun i hi => (hA i hi).1)) (by simp [concs, conc, argR, Go.Og.look])
   (law_F (vals := A) (there := fun _ => false) arg_nil (fun _ _ => rfl) (arg_of fun h => by have := look_eOf1 (q := 51) (f := fun i => .int .i64 (A i)) (X := []) h; rwa [List.append_nil] at this) x2)
 ·obtain ⟨B, hB⟩ := hr0 blk0 off0 len0 cap0 rfl
  exact law_belowE (sound4 (eOf 50 len0 fun i => .bool (B i && decide (i < len0)))) globLt (by decide : 2 ≤ 100) [(50, ⟨blk0, off0, 0⟩)] [.sl 50 0 len0 (.ex cap0), .nils, .bool x2] [.slice (some ⟨blk0, off0, none⟩) len0 cap0, .slice none 0 0, .bool x2] w
   (fun id i h => by simp only [Go.Og.look] at h; split at h <;> first | (cases h; done) | (rename_i he; have := Nat.eq_of_beq_eq_true he; omega))
   (ext_of (g := fun i => .bool (B i && decide (i < len0))) rfl (fun i => ⟨rfl, rfl⟩) (fun i hi => by rw [hB i hi, decide_eq_true hi, Bool.and_true])) (by simp [concs, conc, argR, Go.Og.look])
   (law_F (vals := fun _ => 0) (there := fun i => B i && decide (i < len0)) (arg_of fun h => by have := look_eOf1 (q := 50) (f := fun i => .bool (B i && decide (i < len0))) (X := []) h; rwa [List.append_nil] at this) (fun i hi => by simp; omega) arg_nil x2)
 ·obtain ⟨B, hB⟩ := hr0 blk0 off0 len0 cap0 rfl
  obtain ⟨A, hA⟩ := hr1 blk1 off1 len1 cap1 rfl
  exact law_belowE (sound4 (eOf 50 len0 (fun i => .bool (B i && decide (i < len0))) ++ eOf 51 len1 fun i => .int .i64 (A i))) globLt (by decide : 2 ≤ 100) [(50, ⟨blk0, off0, 0⟩), (51, ⟨blk1, off1, 0⟩)] [.sl 50 0 len0 (.ex cap0), .sl 51 0 len1 (.ex cap1), .bool x2] [.slice (some ⟨blk0, off0, none⟩) len0 cap0, .slice (some ⟨blk1, off1, none⟩) len1 cap1, .bool x2] w
   (fun id i h => by simp only [Go.Og.look] at h; (repeat' split at h) <;> first | (cases h; done) | (rename_i he; have := Nat.eq_of_beq_eq_true he; omega))
   (ext_app (ext_of (g := fun i => .bool (B i && decide (i < len0))) rfl (fun i => ⟨rfl, rfl⟩) (fun i hi => by rw [hB i hi, decide_eq_true hi, Bool.and_true])) (ext_of (g := fun i => .int .i64 (A i)) rfl (fun i => ⟨rfl, rfl⟩) (fun i hi => (hA i hi).1))) (by simp [concs, conc, argR, Go.Og.look])
   (law_F (vals := A) (there := fun i => B i && decide (i < len0)) (arg_of fun h => look_eOf1 h) (fun i hi => by simp; omega) (arg_of fun h => look_eOf2 (by decide) h) x2)
theorem laidOut : laidOutB Tryz.prog = true := by kernel_rfl
theorem own : ownKnob Tryz.prog.godebug = none := by kernel_rfl
theorem lifted (os : Os) (started : os.Started) (H : Type) (enc : TypeId × Value → H) :
    ReturnsInHanded {} Tryz.checked os 4 .any (fun w args => (Rows.uperPreambleSpec.pre enc Tryz.prog Tryz.f4 Rows.uperPreambleRow.domain false w args ∧ laidMetH Tryz.prog Rows.uperPreambleRow.laid w) ∧ sizedMet enc Tryz.prog Tryz.f4 (OpenSpec.ofChange Rows.uperPreambleSpec) false w args)
      (Rows.uperPreambleSpec.post enc Tryz.prog Tryz.f4 false true false false) := by
  refine returnsInHanded_of_change_and (C := Tryz.checked) (X := fun w _ => laidMetH Tryz.prog Rows.uperPreambleRow.laid w) (fun _ _ _ hh h => h.of_heap hh) own started (by kernel_rfl) Tryz.func4
    (ChangeSpec.witness_shaped (enc := enc) (C := Tryz.checked) (os := os) (X := fun w _ => laidMetH Tryz.prog Rows.uperPreambleRow.laid w) false (World.laidAll Tryz.prog os Rows.uperPreambleRow.laid) #[.slice none 0 0, .slice none 0 0, .bool false] 8 (World.laidAll_os _ _ _)
      (World.shaped_of_ZipB (by kernel_rfl) (by kernel_rfl)) (by kernel_rfl) (by kernel_rfl) (by kernel_rfl)
      (by rw [MakeChecks.laidMetH_plain _ _ _ (by kernel_rfl)]; exact laidMet_laidAll _ (by kernel_rfl) (by kernel_rfl))) ?_
  intro W base args ds gs before hval0 hW hc _ hL _
  have hval : ∀ (j : Nat) t v, Tryz.f4.params[j]? = some t → args[j]? = some v → Value.okWide Tryz.prog W .any base t v := hval0
  have hW' := hW
  obtain ⟨p, q, hA0, hV, rfl, _, _⟩ := hW
  have hA : DataW.TrodAll enc Tryz.prog W 0 (fun _ => true) true Tryz.f4.params.toList args.toList ds p := hA0
  have hlt : ∀ y ∈ p, y.block < W.heap.size := DataW.TrodAll.lt hA
  rw [Tryz.params4] at hA hval
  obtain ⟨x0, x1, v2, d0, d1, d2, p0, p1, p2, rfl, rfl, rfl, h0, h1, h2⟩ := trodAll_three hA
  obtain ⟨rfl, rfl⟩ := trodVars_none hV
  have hx0 := cell_slice Tryz.underlying44 (by have h := hval 0 44 x0 rfl rfl; unfold Value.okWide at h; rw [Tryz.underlying44] at h; exact h)
  have hx1 := cell_slice Tryz.underlying22 (by have h := hval 1 22 x1 rfl rfl; unfold Value.okWide at h; rw [Tryz.underlying22] at h; exact h)
  obtain ⟨x2, rfl⟩ := okWide_bool Tryz.underlying4 (hval 2 4 v2 rfl rfl)
  simp only [List.append_nil] at hW'
  refine (walk x0 x1 x2 hx0 hx1 W (fun blk off len cap e => by subst e; exact row_bools Tryz.underlying44 Tryz.underlying4 (by kernel_rfl) h0) (fun blk off len cap e => by subst e; exact row_ints Tryz.underlying22 Tryz.underlying3 (by kernel_rfl) h1)).mono fun e W' ⟨he, hb⟩ => ?_
  subst he
  refine ⟨_, rfl, _, _, _, [], p0 ++ (p1 ++ p2), [], hW', ?_, ?_, ?_, World.keptBut_mono (fun _ f => f.elim) (hb.frame (fun _ => False)), fun h => by cases h⟩
  · exact trodAll_mk1 (shut_bool Tryz.underlying4 true)
  · exact trodAll_mk3 (Below.trod laidOut (by kernel_rfl) (of_decide_eq_true (by kernel_rfl)) h0 hb (fun y hy => hlt y (by simp [hy]))) (Below.trod laidOut (by kernel_rfl) (of_decide_eq_true (by kernel_rfl)) h1 hb (fun y hy => hlt y (by simp [hy]))) (Below.trod laidOut (by kernel_rfl) (of_decide_eq_true (by kernel_rfl)) h2 hb (fun y hy => hlt y (by simp [hy])))
  · rfl
theorem said : Rows.UperPreambleSaid :=
 OpenClaim.holds_of_wide 4 Tryz.f4 rfl rfl rfl rfl rfl rfl rfl ⟨rfl, rfl, rfl, rfl, rfl⟩ rfl rfl rfl rfl rfl (by kernel_rfl) Tryz.func4 (by unfold joinedFacts; rw [k_inPlace, k_unfollowed, k_recurses, k_varsNamed]; kernel_rfl)
  (of_decide_eq_true (by kernel_rfl)) (by unfold Func.isWrapper; first | (rw [if_pos (by decide +kernel)]; kernel_rfl) | (rw [if_neg (by decide +kernel)]; exact ⟨rfl, rfl⟩))
  (fun os started H enc _ => lifted os started H enc)
theorem plain (f : FuncId) (fn : Func) (hf : Tryz.pinned.checked.prog.funcNamed Rows.uperPreambleRow.func = some f) (hfn : Tryz.pinned.checked.prog.funcs[f]? = some fn) :
  false = Tryz.pinned.checked.prog.looks [] ∧ ∀ (j : Nat) t, fn.params[j]? = some t → Tryz.pinned.checked.prog.wantsStandIn t = false := by
 obtain rfl : f = 4 := Option.some.inj ((show Tryz.prog.funcNamed Rows.uperPreambleRow.func = some 4 by kernel_rfl).symm.trans hf) |>.symm
 obtain rfl : fn = Tryz.f4 := (Option.some.inj (Tryz.func4.symm.trans hfn)).symm
 refine ⟨by kernel_rfl, fun j t ht => ?_⟩
 rw [Tryz.params4] at ht
 have hm := Array.mem_of_getElem? ht
 simp only [List.mem_toArray, List.mem_cons, List.not_mem_nil, or_false] at hm
 rcases hm with rfl | rfl | rfl
 ·exact (show Tryz.prog.wantsStandIn 44 = false by kernel_rfl)
 ·exact (show Tryz.prog.wantsStandIn 22 = false by kernel_rfl)
 ·exact (show Tryz.prog.wantsStandIn 4 = false by kernel_rfl)
theorem card : Rows.UperPreambleCardSaid :=
 Claim7.holds_tied_plain_at .later [] _ _ _ _ said (fun _ h => by cases h) (by kernel_rfl) (fun _ h => by cases h) uperPreamble_row_tie rfl ⟨rfl, rfl⟩ (by kernel_rfl) rfl plain (by kernel_rfl)
#print axioms card
end Go.Proofs.YtgjjnbddbbhloaaGreatDoor.uperPreamble
