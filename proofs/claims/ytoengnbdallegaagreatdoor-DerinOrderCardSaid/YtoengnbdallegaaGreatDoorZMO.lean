/- oghamlaw16.DerinOrder answers true for every input: the tied card. No condition beyond the row's own. -/
import Derived.Test.YtoengnbdallegaaGreatDoorCards
import Derived.Test.YtoengnbdallegaaGreatDoorTie
import Derived.WalkKit
import Derived.ProofKit
import Derived.OpenShut
import Derived.Carry
import Derived.LaidMore
import Derived.Lay
import Derived.SevenTiedAt
import Derived.Stop.Joined
import Derived.Test.YtoengnbdallegaaGreatDoorQ6
open Nat renaming eq_of_beq_eq_true -> BZ, zero_add -> Bp, mul_one -> CQ, not_lt_zero -> fV
open Option renaming some -> AL
open List renaming mem_cons -> AS, not_mem_nil -> A2, getElem?_map -> Bh, append_nil -> C6, range -> GB, getElem?_range -> fk
open Array renaming mem_of_getElem? -> JR
set_option maxRecDepth 100000
set_option maxHeartbeats 0
set_option linter.all false
namespace Go.Proofs.YtoengnbdallegaaGreatDoor.derinOrder
open Go Go.Og Go.ChangeShapes Go.WideShapes Go.ChangeAt Go.RowKit
def qs (q len : Nat) (f : Nat → V) : EB := if len = 0 then [] else [(q, .cells ((GB len).map f))]
theorem ql {R : Ren} {w : World} {q blk off len : Nat} {f : Nat → V} {g : Nat → Value} (hR : R q = some ⟨blk, off, 0⟩) (hc : ∀ i, Am R (f i) = some (g i) ∧ (g i).oneCell' = true) (h : ∀ i, i < len → w.cell? ⟨blk, off + i, none⟩ = some (g i)) : ∀ id b, Go.Og.look (qs q len f) id = some b → ∃ i, R id = some i ∧ II R i b w := by
 unfold qs
 by_cases h0 : len = 0
 ·rw [if_pos h0]; intro id b hb; cases hb
 ·rw [if_neg h0]; exact iK hR (ZT hc h h0)
theorem W7 {q len : Nat} {f : Nat → V} {X : EB} (h : len ≠ 0) : BB (qs q len f ++ X) q = some (.cells ((GB len).map f)) := by
 unfold qs; rw [if_neg h, Ap]; simp [Go.Og.look]
theorem YP (E : EB) : CB Tryz.prog E glob 4 (F4 E (TW E 59) (AZ E (TW E 59)) 600000) := SF4 E (TW E 59) (yG E 59) 600000
theorem iz : wi [] .nils 0 (fun _ => 0) := ⟨fun _ => rfl, fun _ _ _ h => absurd h (fV _)⟩
theorem rE {len cap : Nat} {f : Nat → Int} : wi (qs 50 len fun i => .int .i64 (f i)) (.sl 50 0 len (.ex cap)) len f := by
 refine ⟨fun _ => rfl, fun Z i J hi hn => ?_⟩
 rw [Dr hi]
 show BY _ Z 50 (0 + i * 1) J = _
 unfold BY Yb
 rw [hn]
 have h : BB (qs 50 len fun i => V.int .i64 (f i)) 50 = some (.cells ((GB len).map fun i => V.int .i64 (f i))) := by
  have := W7 (q := 50) (f := fun i => V.int .i64 (f i)) (X := []) (show len ≠ 0 by omega)
  rwa [C6] at this
 simp only [h]
 refine VM ?_
 rw [Qn, Bp, CQ, Bh, fk hi]; rfl
theorem ADg (x0 : Value) (x1 : Bool) (hx0 : x0 = .slice none 0 0 ∨ ∃ blk off len cap, x0 = .slice (some ⟨blk, off, none⟩) len cap) (w : World)
  (hr : ∀ blk off len cap, x0 = .slice (some ⟨blk, off, none⟩) len cap → ∃ B : Nat → Int, ∀ i, i < len → w.cell? ⟨blk, off + i, none⟩ = some (.int .i64 (B i)) ∧ (Lit.int .i64 (B i)).wf = true) :
  Calls Tryz.prog 4 #[x0, .bool x1] w fun e w' => e = .returned (.bool true) ∧ RowKit.Below w.heap.size w w' := by
 rcases hx0 with rfl | ⟨blk0, off0, len0, cap0, rfl⟩
 ·exact Nk (YP []) UJ (by decide : 2 ≤ 100) [] [.nils, .bool x1] [.slice none 0 0, .bool x1] w (fun id i h => by simp [Go.Og.look] at h) (fun id b hb => by simp [Go.Og.look] at hb) (by simp [Au, Am, N9, Go.Og.look])
   (aD iz rfl x1)
 ·obtain ⟨A, hA⟩ := hr blk0 off0 len0 cap0 rfl
  exact Nk (YP (qs 50 len0 fun i => .int .i64 (A i))) UJ (by decide : 2 ≤ 100) [(50, ⟨blk0, off0, 0⟩)] [.sl 50 0 len0 (.ex cap0), .bool x1] [.slice (some ⟨blk0, off0, none⟩) len0 cap0, .bool x1] w
   (fun id i h => by simp only [Go.Og.look] at h; split at h <;> first | (cases h; done) | (rename_i he; have := BZ he; omega))
   (ql (g := fun i => .int .i64 (A i)) rfl (fun i => ⟨rfl, rfl⟩) (fun i hi => (hA i hi).1)) (by simp [Au, Am, N9, Go.Og.look])
   (aD rE rfl x1)
theorem VR : laidOutB Tryz.prog = true := by kernel_rfl
theorem own : ownKnob Tryz.prog.godebug = none := by kernel_rfl
theorem qX (os : Os) (started : os.Started) (H : Type) (enc : TypeId × Value → H) :
    ReturnsInHanded {} Tryz.checked os 4 .any (fun w args => (Rows.derinOrderSpec.pre enc Tryz.prog Tryz.f4 Rows.derinOrderRow.domain false w args ∧ laidMetH Tryz.prog Rows.derinOrderRow.laid w) ∧ sizedMet enc Tryz.prog Tryz.f4 (OpenSpec.ofChange Rows.derinOrderSpec) false w args)
      (Rows.derinOrderSpec.post enc Tryz.prog Tryz.f4 false true false false) := by
  refine returnsInHanded_of_change_and (C := Tryz.checked) (X := fun w _ => laidMetH Tryz.prog Rows.derinOrderRow.laid w) (fun _ _ _ hh h => h.of_heap hh) own started (by kernel_rfl) Tryz.func4
    (ChangeSpec.witness_shaped (enc := enc) (C := Tryz.checked) (os := os) (X := fun w _ => laidMetH Tryz.prog Rows.derinOrderRow.laid w) false (World.laidAll Tryz.prog os Rows.derinOrderRow.laid) #[.slice none 0 0, .bool false] 8 (World.laidAll_os _ _ _)
      (World.shaped_of_ZipB (by kernel_rfl) (by kernel_rfl)) (by kernel_rfl) (by kernel_rfl) (by kernel_rfl)
      (by rw [MakeChecks.laidMetH_plain _ _ _ (by kernel_rfl)]; exact laidMet_laidAll _ (by kernel_rfl) (by kernel_rfl))) ?_
  intro W base args ds gs before hval0 hW hc _ hL _
  have hval : ∀ (j : Nat) t v, Tryz.f4.params[j]? = some t → args[j]? = some v → Value.okWide Tryz.prog W .any base t v := hval0
  have hW' := hW
  obtain ⟨p, q, hA0, hV, rfl, _, _⟩ := hW
  have hA : DataW.TrodAll enc Tryz.prog W 0 (fun _ => true) true Tryz.f4.params.toList args.toList ds p := hA0
  have hlt : ∀ y ∈ p, y.block < W.heap.size := DataW.TrodAll.lt hA
  rw [Tryz.params4] at hA hval
  obtain ⟨x0, v1, d0, d1, p0, p1, rfl, rfl, rfl, h0, h1⟩ := trodAll_two hA
  obtain ⟨rfl, rfl⟩ := trodVars_none hV
  have hx0 := UW Tryz.underlying23 (by have h := hval 0 23 x0 rfl rfl; unfold Value.okWide at h; rw [Tryz.underlying23] at h; exact h)
  obtain ⟨x1, rfl⟩ := okWide_bool Tryz.underlying4 (hval 1 4 v1 rfl rfl)
  simp only [C6] at hW'
  refine (ADg x0 x1 hx0 W (fun blk off len cap e => by subst e; exact YX Tryz.underlying23 Tryz.underlying3 (by kernel_rfl) h0)).mono fun e W' ⟨he, hb⟩ => ?_
  subst he
  refine ⟨_, rfl, _, _, _, [], p0 ++ p1, [], hW', ?_, ?_, ?_, World.keptBut_mono (fun _ f => f.elim) (hb.frame (fun _ => False)), fun h => by cases h⟩
  · exact trodAll_mk1 (shut_bool Tryz.underlying4 true)
  · exact trodAll_mk2 (Below.trod VR (by kernel_rfl) (of_decide_eq_true (by kernel_rfl)) h0 hb (fun y hy => hlt y (by simp [hy]))) (Below.trod VR (by kernel_rfl) (of_decide_eq_true (by kernel_rfl)) h1 hb (fun y hy => hlt y (by simp [hy])))
  · rfl
theorem ADl : Rows.DerinOrderSaid :=
 OpenClaim.holds_of_wide 4 Tryz.f4 rfl rfl rfl rfl rfl rfl rfl ⟨rfl, rfl, rfl, rfl, rfl⟩ rfl rfl rfl rfl rfl (by kernel_rfl) Tryz.func4 (by unfold joinedFacts; rw [XB, Qq, UI, S5]; kernel_rfl)
  (of_decide_eq_true (by kernel_rfl)) (by unfold Func.isWrapper; first | (rw [if_pos (by decide +kernel)]; kernel_rfl) | (rw [if_neg (by decide +kernel)]; exact ⟨rfl, rfl⟩))
  (fun os started H enc _ => qX os started H enc)
theorem VF (f : FuncId) (fn : Func) (hf : Tryz.pinned.checked.prog.funcNamed Rows.derinOrderRow.func = some f) (hfn : Tryz.pinned.checked.prog.funcs[f]? = some fn) :
  false = Tryz.pinned.checked.prog.looks [] ∧ ∀ (j : Nat) t, fn.params[j]? = some t → Tryz.pinned.checked.prog.wantsStandIn t = false := by
 obtain rfl : f = 4 := AL.inj ((show Tryz.prog.funcNamed Rows.derinOrderRow.func = some 4 by kernel_rfl).symm.trans hf) |>.symm
 obtain rfl : fn = Tryz.f4 := (AL.inj (Tryz.func4.symm.trans hfn)).symm
 refine ⟨by kernel_rfl, fun j t ht => ?_⟩
 rw [Tryz.params4] at ht
 have hm := JR ht
 simp only [List.mem_toArray, AS, A2, or_false] at hm
 rcases hm with rfl | rfl
 ·exact (show Tryz.prog.wantsStandIn 23 = false by kernel_rfl)
 ·exact (show Tryz.prog.wantsStandIn 4 = false by kernel_rfl)
theorem card : Rows.DerinOrderCardSaid :=
 Claim7.holds_tied_plain_at .later [] _ _ _ _ ADl (fun _ h => by cases h) (by kernel_rfl) (fun _ h => by cases h) derinOrder_row_tie rfl ⟨rfl, rfl⟩ (by kernel_rfl) rfl VF (by kernel_rfl)
#print axioms card
end Go.Proofs.YtoengnbdallegaaGreatDoor.derinOrder
