/- oghamlaw20.UperinSlots answers true for every input: the tied card. No condition beyond the row's own. -/
import Derived.Test.YtcpdffccolffaaaGreatDoorCards
import Derived.Test.YtcpdffccolffaaaGreatDoorTie
import Derived.WalkKit
import Derived.ProofKit
import Derived.OpenShut
import Derived.Carry
import Derived.LaidMore
import Derived.Lay
import Derived.SevenTiedAt
import Derived.Stop.Joined
import Derived.Test.YtcpdffccolffaaaGreatDoorQ6
open Int renaming ofNat -> AA
open Nat renaming eq_of_beq_eq_true -> BO, zero_add -> CJ, mul_one -> C8
open Bool renaming and_eq_true -> AK
open List renaming append_nil -> Am, mem_cons -> BJ, getElem?_map -> BM, drop_zero -> CO, range -> Cj, length_map -> DH, take_of_length_le -> ET, getElem?_eq_some_iff -> Eo, mem_map -> FA, mem_range -> MC, getElem?_range -> ON, map_map -> qY
open Option renaming some -> AP, map_eq_some_iff -> Aq
open Array renaming mem_of_getElem? -> Kg
set_option maxRecDepth 100000
set_option maxHeartbeats 0
set_option linter.all false
namespace Go.Proofs.YtcpdffccolffaaaGreatDoor.uperinSlots
open Go.ChangeShapes
open Go Go.Og Go.ChangeShapes Go.WideShapes Go.ChangeAt Go.RowKit
theorem nD {R : Cz} {w : World} {E1 E2 : EB} (h1 : ∀ id b, Go.Og.look E1 id = some b → ∃ i, R id = some i ∧ HC R i b w) (h2 : ∀ id b, Go.Og.look E2 id = some b → ∃ i, R id = some i ∧ HC R i b w) : ∀ id b, Go.Og.look (E1 ++ E2) id = some b → ∃ i, R id = some i ∧ HC R i b w := by
 intro id b hb
 rw [Ib] at hb
 cases h : Go.Og.look E1 id with
 | some c => rw [h] at hb; cases hb; exact h1 id b h
 | none => rw [h] at hb; exact h2 id b hb
def lE (q len : Nat) (f : Nat → V) : EB := if len = 0 then [] else [(q, .cells ((Cj len).map f))]
theorem Wh {R : Cz} {w : World} {q blk off len : Nat} {f : Nat → V} {g : Nat → Value} (hR : R q = some ⟨blk, off, 0⟩) (hc : ∀ i, Au R (f i) = some (g i) ∧ (g i).oneCell' = true) (h : ∀ i, i < len → w.cell? ⟨blk, off + i, none⟩ = some (g i)) : ∀ id b, Go.Og.look (lE q len f) id = some b → ∃ i, R id = some i ∧ HC R i b w := by
 unfold lE
 by_cases h0 : len = 0
 ·rw [if_pos h0]; intro id b hb; cases hb
 ·rw [if_neg h0]; exact Go.Og.ext_one hR (eH hc h h0)
theorem SN {q len : Nat} {f : Nat → V} {X : EB} (h : len ≠ 0) : Ba (lE q len f ++ X) q = some (.cells ((Cj len).map f)) := by
 unfold lE; rw [if_neg h, BK]; simp [Go.Og.look]
theorem aM {q q' len len' : Nat} {f f' : Nat → V} (hq : q' ≠ q) (h : len ≠ 0) : Ba (lE q' len' f' ++ lE q len f) q = some (.cells ((Cj len).map f)) := by
 unfold lE
 rw [if_neg h, BK]
 split <;> simp [Go.Og.look, hq]
theorem cQ {n : Int} (h : (Lit.int .u8 n).wf = true) : n.toNat < 256 ∧ n = AA n.toNat := by
 have h3 : (decide (IntKind.min .u8 ≤ n) && decide (n ≤ IntKind.max .u8)) = true := h
 simp only [AK, decide_eq_true_eq] at h3
 obtain ⟨h1, h2⟩ := h3
 have h1 : 0 ≤ n := h1
 have h2 : n ≤ 255 := h2
 obtain ⟨y, rfl⟩ := Int.eq_ofNat_of_zero_le h1
 exact ⟨by show y < 256; omega, rfl⟩
theorem NG (E : EB) : Cb Tryz.prog E glob 3 (F3 E (TW E 59) (Ao E (TW E 59)) 600000) := SF3 E (TW E 59) (AAh E 59) 600000
theorem Y1 {q : Nat} {J : H} (hq : q < 100) (f : Fr AJ ⟨100, []⟩ J) : Ba J.bl q = none := by
 rw [f.same q hq (fun h => h)]; rfl
theorem lW (E : EB) : lG E ⟨100, []⟩ .nils [] := ⟨fun _ => rfl, fun _ _ i x h => by cases h⟩
theorem tV {E : EB} {len cap : Nat} {f : Nat → Bool} (h : len ≠ 0 → Ba E 50 = some (.cells ((Cj len).map fun i => V.bool (f i)))) : lG E ⟨100, []⟩ (.sl 50 0 len (.ex cap)) ((Cj len).map f) := by
 refine ⟨fun U => by rw [DH, List.length_range]; rfl, fun J fr i x hx U => ?_⟩
 rw [BM, Aq] at hx
 obtain ⟨j, hj, rfl⟩ := hx
 obtain ⟨hj1, rfl⟩ := Eo.1 hj
 have hi : i < len := by simpa using hj1
 rw [List.getElem_range, CR hi]
 show BL E J 50 (0 + i * 1) U = _
 unfold BL WW
 rw [Y1 (by decide) fr]
 simp only [h (by omega)]
 refine Oy ?_
 rw [MW, CJ, C8, BM, ON hi]; rfl
theorem ug {E : EB} {len cap : Nat} {f : Nat → Int} (h : len ≠ 0 → Ba E 51 = some (.cells ((Cj len).map fun i => .int .u8 (f i)))) (h0 : len ≠ 0) : Bx E ⟨100, []⟩ (.sl 51 0 len (.ex cap)) ((Cj len).map f) := by
 have hl := h h0
 have e : H0 ((Cj len).map f) = (Cj len).map fun i => .int .u8 (f i) := by unfold H0; rw [qY]; rfl
 have ln : ((Cj len).map f).length = len := by simp
 unfold Bx
 rw [ln, e]
 refine ⟨fun U => ?_, ?_, by simp, rfl, fun U => rfl, fun b hb => by cases hb; decide⟩
 ·show WW E ⟨100, []⟩ 51 (fun l => Gs l 0 (len * 1) fun l' => U len l') = _
  unfold WW
  show (match Ba E 51 with | some (.cells l) => _ | _ => none) = _
  rw [hl]
  show Gs _ 0 (len * 1) _ = _
  rw [Ot (by simp)]
  rw [CO, ET (by simp)]
 ·show (NA E ⟨100, []⟩ 51 0 (len * 1)).map _ = _
  unfold NA rd
  simp only [← BK]
  rw [show Ba ([] : EB) 51 = none from rfl]
  simp only [hl]
  simp
  exact ET (by simp)
def cN (len : Nat) (B : Nat → Int) : List Nat := (Cj len).map fun i => (B i).toNat
theorem uf {len : Nat} {B : Nat → Int} (h : ∀ i, i < len → (Lit.int .u8 (B i)).wf = true) : ∀ c ∈ cN len B, c < 256 := by
 intro c hc
 unfold cN at hc
 obtain ⟨i, hi, rfl⟩ := FA.1 hc
 exact (cQ (h i (MC.1 hi))).1
theorem rG (len : Nat) (B : Nat → Int) : nI (cN len B) = (Cj len).map fun i => AA (B i).toNat := by
 unfold nI cN; rw [qY]; rfl
theorem Tm (len : Nat) (B : Nat → Int) : (cN len B).length = len := by unfold cN; simp
theorem ca {E : EB} {len cap : Nat} {B : Nat → Int} {bv : V} {th : List Bool} (a : Int) (hth : lG E ⟨100, []⟩ bv th) (h0 : len ≠ 0) (hcap : len ≤ cap) (hB : ∀ i, i < len → (Lit.int .u8 (B i)).wf = true) (h : Ba E 51 = some (.cells ((Cj len).map fun i => .int .u8 (AA (B i).toNat)))) :
  yk (F3 E (TW E 59) (Ao E (TW E 59)) 600000 [.int .i64 a, bv, .sl 51 0 len (.ex cap)] ⟨100, []⟩) = true := by
 refine tX a hth (C := cN len B) (fun U => by rw [Tm]; rfl) (uf hB) (fun J' fr => ?_) hcap (fun b hb => by cases hb; decide) (fun J' fr => ⟨?_, fun s e => by cases e⟩)
 ·refine .inr (.inr ⟨51, 0, .ex cap, _, ?_, .inr ⟨Y1 (by decide) fr, h⟩, ?_, ?_⟩)
  ·rw [Bf, Tm]
  ·rw [Bf, Tm]; simp
  ·rw [Bf, Tm, rG, CO, ET (by simp)]
   unfold H0; rw [qY]; rfl
 ·rw [rG]
  exact Bx.fr (ug (fun _ => h) h0) fr
theorem AFw (x0 : Int) (x1 x2 : Value) (hx1 : x1 = .slice none 0 0 ∨ ∃ blk off len cap, x1 = .slice (some ⟨blk, off, none⟩) len cap) (hx2 : x2 = .slice none 0 0 ∨ ∃ blk off len cap, x2 = .slice (some ⟨blk, off, none⟩) len cap) (w : World)
    (hr0 : ∀ blk off len cap, x1 = .slice (some ⟨blk, off, none⟩) len cap → ∃ B : Nat → Bool, ∀ i, i < len → w.cell? ⟨blk, off + i, none⟩ = some (.bool (B i)))
    (hr1 : ∀ blk off len cap, x2 = .slice (some ⟨blk, off, none⟩) len cap → len ≤ cap ∧ ∃ B : Nat → Int, ∀ i, i < len → w.cell? ⟨blk, off + i, none⟩ = some (.int .u8 (B i)) ∧ (Lit.int .u8 (B i)).wf = true) :
    Calls Tryz.prog 3 #[.int .i64 x0, x1, x2] w fun e w' => e = .returned (.bool true) ∧ RowKit.Below w.heap.size w w' := by
  rcases hx1 with rfl | ⟨blk0, off0, len0, cap0, rfl⟩ <;> rcases hx2 with rfl | ⟨blk1, off1, len1, cap1, rfl⟩
  · exact GZ (NG ([])) Lj (by decide : 2 ≤ 100) [] [.int .i64 x0, .nils, .nils] [.int .i64 x0, .slice none 0 0, .slice none 0 0] w (fun id i h => by simp [Go.Og.look] at h) (fun id b hb => by simp [Go.Og.look] at hb) (by simp [A5, Au, Lt, Go.Og.look])
            (Ou x0 (fun U => rfl))
  · by_cases h0 : len1 = 0
    · subst h0
      exact GZ (NG ([])) Lj (by decide : 2 ≤ 100) [(51, ⟨blk1, off1, 0⟩)] [.int .i64 x0, .nils, .sl 51 0 0 (.ex cap1)] [.int .i64 x0, .slice none 0 0, .slice (some ⟨blk1, off1, none⟩) 0 cap1] w (fun id i h => by simp only [Go.Og.look] at h; (repeat' split at h) <;> first | (cases h; done) | (rename_i he; have := BO he; omega)) (fun id b hb => by simp [Go.Og.look] at hb) (by simp [A5, Au, Lt, Go.Og.look])
            (Ou x0 (fun U => rfl))
    · obtain ⟨hcap, B, hB⟩ := hr1 blk1 off1 len1 cap1 rfl
      exact GZ (NG ((lE 51 len1 fun i => .int .u8 (AA (B i).toNat)))) Lj (by decide : 2 ≤ 100) [(51, ⟨blk1, off1, 0⟩)] [.int .i64 x0, .nils, .sl 51 0 len1 (.ex cap1)] [.int .i64 x0, .slice none 0 0, .slice (some ⟨blk1, off1, none⟩) len1 cap1] w (fun id i h => by simp only [Go.Og.look] at h; (repeat' split at h) <;> first | (cases h; done) | (rename_i he; have := BO he; omega)) (Wh (g := fun i => .int .u8 (AA (B i).toNat)) rfl (fun i => ⟨rfl, rfl⟩) (fun i hi => by rw [(hB i hi).1]; congr 2; exact (cQ (hB i hi).2).2)) (by simp [A5, Au, Lt, Go.Og.look])
            (ca x0 (lW _) h0 hcap (fun i hi => (hB i hi).2) (by have := SN (q := 51) (f := fun i => V.int .u8 (AA (B i).toNat)) (X := []) h0; rwa [Am] at this))
  · exact GZ (NG ([])) Lj (by decide : 2 ≤ 100) [(50, ⟨blk0, off0, 0⟩)] [.int .i64 x0, .sl 50 0 len0 (.ex cap0), .nils] [.int .i64 x0, .slice (some ⟨blk0, off0, none⟩) len0 cap0, .slice none 0 0] w (fun id i h => by simp only [Go.Og.look] at h; (repeat' split at h) <;> first | (cases h; done) | (rename_i he; have := BO he; omega)) (fun id b hb => by simp [Go.Og.look] at hb) (by simp [A5, Au, Lt, Go.Og.look])
            (Ou x0 (fun U => rfl))
  · obtain ⟨A, hA⟩ := hr0 blk0 off0 len0 cap0 rfl
    by_cases h0 : len1 = 0
    · subst h0
      exact GZ (NG ([])) Lj (by decide : 2 ≤ 100) [(50, ⟨blk0, off0, 0⟩), (51, ⟨blk1, off1, 0⟩)] [.int .i64 x0, .sl 50 0 len0 (.ex cap0), .sl 51 0 0 (.ex cap1)] [.int .i64 x0, .slice (some ⟨blk0, off0, none⟩) len0 cap0, .slice (some ⟨blk1, off1, none⟩) 0 cap1] w (fun id i h => by simp only [Go.Og.look] at h; (repeat' split at h) <;> first | (cases h; done) | (rename_i he; have := BO he; omega)) (fun id b hb => by simp [Go.Og.look] at hb) (by simp [A5, Au, Lt, Go.Og.look])
            (Ou x0 (fun U => rfl))
    · obtain ⟨hcap, B, hB⟩ := hr1 blk1 off1 len1 cap1 rfl
      exact GZ (NG ((lE 50 len0 fun i => .bool (A i)) ++ (lE 51 len1 fun i => .int .u8 (AA (B i).toNat)))) Lj (by decide : 2 ≤ 100) [(50, ⟨blk0, off0, 0⟩), (51, ⟨blk1, off1, 0⟩)] [.int .i64 x0, .sl 50 0 len0 (.ex cap0), .sl 51 0 len1 (.ex cap1)] [.int .i64 x0, .slice (some ⟨blk0, off0, none⟩) len0 cap0, .slice (some ⟨blk1, off1, none⟩) len1 cap1] w (fun id i h => by simp only [Go.Og.look] at h; (repeat' split at h) <;> first | (cases h; done) | (rename_i he; have := BO he; omega)) (nD (Wh (g := fun i => .bool (A i)) rfl (fun i => ⟨rfl, rfl⟩) (fun i hi => hA i hi)) (Wh (g := fun i => .int .u8 (AA (B i).toNat)) rfl (fun i => ⟨rfl, rfl⟩) (fun i hi => by rw [(hB i hi).1]; congr 2; exact (cQ (hB i hi).2).2))) (by simp [A5, Au, Lt, Go.Og.look])
            (ca x0 (tV fun h => SN (q := 50) (f := fun i => V.bool (A i)) h) h0 hcap (fun i hi => (hB i hi).2) (aM (q := 51) (q' := 50) (f := fun i => V.int .u8 (AA (B i).toNat)) (by decide) h0))
theorem Ta : laidOutB Tryz.prog = true := by kernel_rfl
theorem own : ownKnob Tryz.prog.godebug = none := by kernel_rfl
theorem uG (os : Os) (started : os.Started) (H : Type) (enc : TypeId × Value → H) :
    ReturnsInHanded {} Tryz.checked os 3 .any (fun w args => (Rows.uperinSlotsSpec.pre enc Tryz.prog Tryz.f3 Rows.uperinSlotsRow.domain false w args ∧ laidMetH Tryz.prog Rows.uperinSlotsRow.laid w) ∧ sizedMet enc Tryz.prog Tryz.f3 (OpenSpec.ofChange Rows.uperinSlotsSpec) false w args)
      (Rows.uperinSlotsSpec.post enc Tryz.prog Tryz.f3 false true false false) := by
  refine returnsInHanded_of_change_and (C := Tryz.checked) (X := fun w _ => laidMetH Tryz.prog Rows.uperinSlotsRow.laid w) (fun _ _ _ hh h => h.of_heap hh) own started (by kernel_rfl) Tryz.func3
    (ChangeSpec.witness_shaped (enc := enc) (C := Tryz.checked) (os := os) (X := fun w _ => laidMetH Tryz.prog Rows.uperinSlotsRow.laid w) false (World.laidAll Tryz.prog os Rows.uperinSlotsRow.laid) #[.int .i64 0, .slice none 0 0, .slice none 0 0] 8 (World.laidAll_os _ _ _)
      (World.shaped_of_ZipB (by kernel_rfl) (by kernel_rfl)) (by kernel_rfl) (by kernel_rfl) (by kernel_rfl)
      (by rw [MakeChecks.laidMetH_plain _ _ _ (by kernel_rfl)]; exact laidMet_laidAll _ (by kernel_rfl) (by kernel_rfl))) ?_
  intro W base args ds gs before hval0 hW hc _ hL _
  have hval : ∀ (j : Nat) t v, Tryz.f3.params[j]? = some t → args[j]? = some v → Value.okWide Tryz.prog W .any base t v := hval0
  have hW' := hW
  obtain ⟨p, q, hA0, hV, rfl, _, _⟩ := hW
  have hA : DataW.TrodAll enc Tryz.prog W 0 (fun _ => true) true Tryz.f3.params.toList args.toList ds p := hA0
  have hlt : ∀ y ∈ p, y.block < W.heap.size := DataW.TrodAll.lt hA
  rw [Tryz.params3] at hA hval
  obtain ⟨v0, x1, x2, d0, d1, d2, p0, p1, p2, rfl, rfl, rfl, h0, h1, h2⟩ := trodAll_three hA
  obtain ⟨rfl, rfl⟩ := trodVars_none hV
  obtain ⟨x0, rfl⟩ := fC Tryz.underlying3 (by have h := hval 0 3 v0 rfl rfl; unfold Value.okWide at h; rw [Tryz.underlying3] at h; exact h)
  have hx1 := QU Tryz.underlying22 (by have h := hval 1 22 x1 rfl rfl; unfold Value.okWide at h; rw [Tryz.underlying22] at h; exact h)
  have hx2 := QU Tryz.underlying23 (by have h := hval 2 23 x2 rfl rfl; unfold Value.okWide at h; rw [Tryz.underlying23] at h; exact h)
  simp only [Am] at hW'
  refine (AFw x0 x1 x2 hx1 hx2 W (fun blk off len cap e => by subst e; exact aF Tryz.underlying22 Tryz.underlying4 (by kernel_rfl) h1) (fun blk off len cap e => by subst e; exact ⟨mE Tryz.underlying23 (by kernel_rfl) h2, cg Tryz.underlying23 Tryz.underlying5 (by kernel_rfl) h2⟩)).mono fun e W' ⟨he, hb⟩ => ?_
  subst he
  refine ⟨_, rfl, _, _, _, [], p0 ++ (p1 ++ p2), [], hW', ?_, ?_, ?_, World.keptBut_mono (fun _ f => f.elim) (hb.frame (fun _ => False)), fun h => by cases h⟩
  · exact trodAll_mk1 (shut_bool Tryz.underlying4 true)
  · exact trodAll_mk3 (Below.trod Ta (by kernel_rfl) (of_decide_eq_true (by kernel_rfl)) h0 hb (fun y hy => hlt y (by simp [hy]))) (Below.trod Ta (by kernel_rfl) (of_decide_eq_true (by kernel_rfl)) h1 hb (fun y hy => hlt y (by simp [hy]))) (Below.trod Ta (by kernel_rfl) (of_decide_eq_true (by kernel_rfl)) h2 hb (fun y hy => hlt y (by simp [hy])))
  · rfl
theorem AF0 : Rows.UperinSlotsSaid :=
 OpenClaim.holds_of_wide 3 Tryz.f3 rfl rfl rfl rfl rfl rfl rfl ⟨rfl, rfl, rfl, rfl, rfl⟩ rfl rfl rfl rfl rfl (by kernel_rfl) Tryz.func3 (by unfold joinedFacts; rw [aN, Tc, Wf, VI]; kernel_rfl)
  (of_decide_eq_true (by kernel_rfl)) (by unfold Func.isWrapper; first | (rw [if_pos (by decide +kernel)]; kernel_rfl) | (rw [if_neg (by decide +kernel)]; exact ⟨rfl, rfl⟩))
  (fun os started H enc _ => uG os started H enc)
theorem Yx (f : FuncId) (fn : Func) (hf : Tryz.pinned.checked.prog.funcNamed Rows.uperinSlotsRow.func = some f) (hfn : Tryz.pinned.checked.prog.funcs[f]? = some fn) :
  false = Tryz.pinned.checked.prog.looks [] ∧ ∀ (j : Nat) t, fn.params[j]? = some t → Tryz.pinned.checked.prog.wantsStandIn t = false := by
 obtain rfl : f = 3 := AP.inj ((show Tryz.prog.funcNamed Rows.uperinSlotsRow.func = some 3 by kernel_rfl).symm.trans hf) |>.symm
 obtain rfl : fn = Tryz.f3 := (AP.inj (Tryz.func3.symm.trans hfn)).symm
 refine ⟨by kernel_rfl, fun j t ht => ?_⟩
 rw [Tryz.params3] at ht
 have hm := Kg ht
 simp only [List.mem_toArray, BJ, List.not_mem_nil, or_false] at hm
 rcases hm with rfl | rfl | rfl
 ·exact (show Tryz.prog.wantsStandIn 3 = false by kernel_rfl)
 ·exact (show Tryz.prog.wantsStandIn 22 = false by kernel_rfl)
 ·exact (show Tryz.prog.wantsStandIn 23 = false by kernel_rfl)
theorem card : Rows.UperinSlotsCardSaid :=
 Claim7.holds_tied_plain_at .later [] _ _ _ _ AF0 (fun _ h => by cases h) (by kernel_rfl) (fun _ h => by cases h) uperinSlots_row_tie rfl ⟨rfl, rfl⟩ (by kernel_rfl) rfl Yx (by kernel_rfl)
#print axioms card
end Go.Proofs.YtcpdffccolffaaaGreatDoor.uperinSlots
