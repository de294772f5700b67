/- oghamlaw16.DerinKeeps answers true for every input: the tied card. No condition beyond the row's own. -/
import Derived.Test.YtoengnbdallegaaGreatDoorCards
import Derived.Test.YtoengnbdallegaaGreatDoorTie
import Derived.WalkKit
import Derived.ProofKit
import Derived.OpenShut
import Derived.Carry
import Derived.LaidMore
import Derived.Lay
import Derived.SevenTiedAt
import Derived.Stop.Joined
import Derived.Test.YtoengnbdallegaaGreatDoorQ6
open Int renaming ofNat -> AA
open Nat renaming eq_of_beq_eq_true -> BK, zero_add -> BZ, mul_one -> CG, not_lt_zero -> DL
open Bool renaming and_eq_true -> AJ
open Option renaming some -> AM
open List renaming mem_cons -> Ae, getElem?_map -> B9, append_nil -> CF, drop_zero -> Ca, not_mem_nil -> Cl, take_of_length_le -> Cy, range -> Cz, mem_map -> EF, mem_range -> Sz, getElem?_range -> iM, map_map -> lg
open Array renaming mem_of_getElem? -> KG
set_option maxRecDepth 100000
set_option maxHeartbeats 0
set_option linter.all false
namespace Go.Proofs.YtoengnbdallegaaGreatDoor.derinKeeps
open Go.ChangeShapes
open Go Go.Og Go.ChangeShapes Go.WideShapes Go.ChangeAt Go.RowKit
theorem jS {R : Ren} {w : World} {E1 E2 : EB} (h1 : ∀ id b, Go.Og.look E1 id = some b → ∃ i, R id = some i ∧ G0 R i b w) (h2 : ∀ id b, Go.Og.look E2 id = some b → ∃ i, R id = some i ∧ G0 R i b w) : ∀ id b, Go.Og.look (E1 ++ E2) id = some b → ∃ i, R id = some i ∧ G0 R i b w := by
 intro id b hb
 rw [Ij] at hb
 cases h : Go.Og.look E1 id with
 | some c => rw [h] at hb; cases hb; exact h1 id b h
 | none => rw [h] at hb; exact h2 id b hb
def YZ (q len : Nat) (f : Nat → V) : EB := if len = 0 then [] else [(q, .cells ((Cz len).map f))]
theorem Ox {R : Ren} {w : World} {q blk off len : Nat} {f : Nat → V} {g : Nat → Value} (hR : R q = some ⟨blk, off, 0⟩) (hc : ∀ i, Ao R (f i) = some (g i) ∧ (g i).oneCell' = true) (h : ∀ i, i < len → w.cell? ⟨blk, off + i, none⟩ = some (g i)) : ∀ id b, Go.Og.look (YZ q len f) id = some b → ∃ i, R id = some i ∧ G0 R i b w := by
 unfold YZ
 by_cases h0 : len = 0
 ·rw [if_pos h0]; intro id b hb; cases hb
 ·rw [if_neg h0]; exact jR hR (ay hc h h0)
theorem KV {q len : Nat} {f : Nat → V} {X : EB} (h : len ≠ 0) : BC (YZ q len f ++ X) q = some (.cells ((Cz len).map f)) := by
 unfold YZ; rw [if_neg h, As]; simp [Go.Og.look]
theorem YF {q q' len len' : Nat} {f f' : Nat → V} (hq : q' ≠ q) (h : len ≠ 0) : BC (YZ q' len' f' ++ YZ q len f) q = some (.cells ((Cz len).map f)) := by
 unfold YZ
 rw [if_neg h, As]
 split <;> simp [Go.Og.look, hq]
theorem ZP {n : Int} (h : (Lit.int .u8 n).wf = true) : n.toNat < 256 ∧ n = AA n.toNat := by
 have h3 : (decide (IntKind.min .u8 ≤ n) && decide (n ≤ IntKind.max .u8)) = true := h
 simp only [AJ, decide_eq_true_eq] at h3
 obtain ⟨h1, h2⟩ := h3
 have h1 : 0 ≤ n := h1
 have h2 : n ≤ 255 := h2
 obtain ⟨y, rfl⟩ := Int.eq_ofNat_of_zero_le h1
 exact ⟨by show y < 256; omega, rfl⟩
theorem Mj (E : EB) : CN Tryz.prog E glob 5 (F5 E (TW E 59) (AT E (TW E 59)) 600000) := SF5 E (TW E 59) (zb E 59) 600000
theorem SI (E : EB) : xQ E .nils 0 (fun _ => 0) := ⟨fun _ => rfl, fun _ _ _ h => absurd h (DL _)⟩
theorem VG {E : EB} {len cap : Nat} {f : Nat → Int} (h : len ≠ 0 → BC E 50 = some (.cells ((Cz len).map fun i => V.int .i64 (f i)))) : xQ E (.sl 50 0 len (.ex cap)) len f := by
 refine ⟨fun _ => rfl, fun Z i J hi hn => ?_⟩
 rw [DJ hi]
 show Bc E Z 50 (0 + i * 1) J = _
 unfold Bc X7
 rw [hn]
 simp only [h (by omega)]
 refine Ru ?_
 rw [N7, BZ, CG, B9, iM hi]; rfl
theorem bZ (E : EB) : Bx E ⟨100, []⟩ (.sle 51 0 0 1) (nI []) := ⟨fun _ => rfl, rfl, rfl, rfl, fun _ => rfl, fun _ h => by cases h⟩
theorem ba {E : EB} {len cap : Nat} {f : Nat → Int} (h : len ≠ 0 → BC E 51 = some (.cells ((Cz len).map fun i => .int .u8 (f i)))) (h0 : len ≠ 0) : Bx E ⟨100, []⟩ (.sl 51 0 len (.ex cap)) ((Cz len).map f) := by
 have hl := h h0
 have e : Ho ((Cz len).map f) = (Cz len).map fun i => .int .u8 (f i) := by unfold Ho; rw [lg]; rfl
 have ln : ((Cz len).map f).length = len := by simp
 unfold Bx
 rw [ln, e]
 refine ⟨fun J => ?_, ?_, by simp, rfl, fun J => rfl, fun b hb => by cases hb; decide⟩
 ·show X7 E ⟨100, []⟩ 51 (fun l => GA l 0 (len * 1) fun l' => J len l') = _
  unfold X7
  show (match BC E 51 with | some (.cells l) => _ | _ => none) = _
  rw [hl]
  show GA _ 0 (len * 1) _ = _
  rw [Hs (by simp)]
  rw [Ca, Cy (by simp)]
 ·show (Kh E ⟨100, []⟩ 51 0 (len * 1)).map _ = _
  unfold Kh rd
  simp only [← As]
  rw [show BC ([] : EB) 51 = none from rfl]
  simp only [hl]
  simp
  exact Cy (by simp)
def cN (len : Nat) (B : Nat → Int) : List Nat := (Cz len).map fun i => (B i).toNat
theorem bY {len : Nat} {B : Nat → Int} (h : ∀ i, i < len → (Lit.int .u8 (B i)).wf = true) : Ix (cN len B) := by
 intro c hc
 unfold cN at hc
 obtain ⟨i, hi, rfl⟩ := EF.1 hc
 exact (ZP (h i (Sz.1 hi))).1
theorem mU (len : Nat) (B : Nat → Int) : nI (cN len B) = (Cz len).map fun i => AA (B i).toNat := by
 unfold nI cN; rw [lg]; rfl
theorem AFI (x0 x1 : Value) (x2 : Bool) (hx0 : x0 = .slice none 0 0 ∨ ∃ blk off len cap, x0 = .slice (some ⟨blk, off, none⟩) len cap) (hx1 : x1 = .slice none 0 0 ∨ ∃ blk off len cap, x1 = .slice (some ⟨blk, off, none⟩) len cap) (w : World)
    (hr0 : ∀ blk off len cap, x0 = .slice (some ⟨blk, off, none⟩) len cap → ∃ B : Nat → Int, ∀ i, i < len → w.cell? ⟨blk, off + i, none⟩ = some (.int .i64 (B i)) ∧ (Lit.int .i64 (B i)).wf = true)
    (hr1 : ∀ blk off len cap, x1 = .slice (some ⟨blk, off, none⟩) len cap → ∃ B : Nat → Int, ∀ i, i < len → w.cell? ⟨blk, off + i, none⟩ = some (.int .u8 (B i)) ∧ (Lit.int .u8 (B i)).wf = true) :
    Calls Tryz.prog 5 #[x0, x1, .bool x2] w fun e w' => e = .returned (.bool true) ∧ RowKit.Below w.heap.size w w' := by
  rcases hx0 with rfl | ⟨blk0, off0, len0, cap0, rfl⟩ <;> rcases hx1 with rfl | ⟨blk1, off1, len1, cap1, rfl⟩
  · exact GQ (Mj ([])) LD (by decide : 2 ≤ 100) [] [.nils, .nils, .bool x2] [.slice none 0 0, .slice none 0 0, .bool x2] w (fun id i h => by simp [Go.Og.look] at h) (fun id b hb => by simp [Go.Og.look] at hb) (by simp [Ax, Ao, LQ, Go.Og.look, BI.cap, Addr.add])
            (Mw (c := []) (SI _) rfl (fun _ h => by cases h) (N9 _ _) x2)
  · by_cases h0 : len1 = 0
    · subst h0
      exact GQ (Mj ([])) LD (by decide : 2 ≤ 100) [(51, ⟨blk1, off1, cap1⟩)] [.nils, .sle 51 0 0 1, .bool x2] [.slice none 0 0, .slice (some ⟨blk1, off1, none⟩) 0 cap1, .bool x2] w (fun id i h => by simp only [Go.Og.look] at h; (repeat' split at h) <;> first | (cases h; done) | (rename_i he; have := BK he; omega)) (fun id b hb => by simp [Go.Og.look] at hb) (by simp [Ax, Ao, LQ, Go.Og.look, BI.cap, Addr.add])
            (Mw (c := []) (SI _) rfl (fun _ h => by cases h) (bZ _) x2)
    · obtain ⟨B, hB⟩ := hr1 blk1 off1 len1 cap1 rfl
      exact GQ (Mj ((YZ 51 len1 fun i => .int .u8 (AA (B i).toNat)))) LD (by decide : 2 ≤ 100) [(51, ⟨blk1, off1, 0⟩)] [.nils, .sl 51 0 len1 (.ex cap1), .bool x2] [.slice none 0 0, .slice (some ⟨blk1, off1, none⟩) len1 cap1, .bool x2] w (fun id i h => by simp only [Go.Og.look] at h; (repeat' split at h) <;> first | (cases h; done) | (rename_i he; have := BK he; omega)) (Ox (g := fun i => .int .u8 (AA (B i).toNat)) rfl (fun i => ⟨rfl, rfl⟩) (fun i hi => by rw [(hB i hi).1]; congr 2; exact (ZP (hB i hi).2).2)) (by simp [Ax, Ao, LQ, Go.Og.look, BI.cap, Addr.add])
            (Mw (c := cN len1 B) (SI _) rfl (bY fun i hi => (hB i hi).2) (by rw [mU]; exact ba (fun h => by have := KV (q := 51) (f := fun i => V.int .u8 (AA (B i).toNat)) (X := []) h; rwa [CF] at this) h0) x2)
  · obtain ⟨A, hA⟩ := hr0 blk0 off0 len0 cap0 rfl
    exact GQ (Mj ((YZ 50 len0 fun i => .int .i64 (A i)))) LD (by decide : 2 ≤ 100) [(50, ⟨blk0, off0, 0⟩)] [.sl 50 0 len0 (.ex cap0), .nils, .bool x2] [.slice (some ⟨blk0, off0, none⟩) len0 cap0, .slice none 0 0, .bool x2] w (fun id i h => by simp only [Go.Og.look] at h; (repeat' split at h) <;> first | (cases h; done) | (rename_i he; have := BK he; omega)) (Ox (g := fun i => .int .i64 (A i)) rfl (fun i => ⟨rfl, rfl⟩) (fun i hi => (hA i hi).1)) (by simp [Ax, Ao, LQ, Go.Og.look, BI.cap, Addr.add])
            (Mw (c := []) (VG fun h => by have := KV (q := 50) (f := fun i => V.int .i64 (A i)) (X := []) h; rwa [CF] at this) rfl (fun _ h => by cases h) (N9 _ _) x2)
  · obtain ⟨A, hA⟩ := hr0 blk0 off0 len0 cap0 rfl
    by_cases h0 : len1 = 0
    · subst h0
      exact GQ (Mj ((YZ 50 len0 fun i => .int .i64 (A i)))) LD (by decide : 2 ≤ 100) [(50, ⟨blk0, off0, 0⟩), (51, ⟨blk1, off1, cap1⟩)] [.sl 50 0 len0 (.ex cap0), .sle 51 0 0 1, .bool x2] [.slice (some ⟨blk0, off0, none⟩) len0 cap0, .slice (some ⟨blk1, off1, none⟩) 0 cap1, .bool x2] w (fun id i h => by simp only [Go.Og.look] at h; (repeat' split at h) <;> first | (cases h; done) | (rename_i he; have := BK he; omega)) (Ox (g := fun i => .int .i64 (A i)) rfl (fun i => ⟨rfl, rfl⟩) (fun i hi => (hA i hi).1)) (by simp [Ax, Ao, LQ, Go.Og.look, BI.cap, Addr.add])
            (Mw (c := []) (VG fun h => by have := KV (q := 50) (f := fun i => V.int .i64 (A i)) (X := []) h; rwa [CF] at this) rfl (fun _ h => by cases h) (bZ _) x2)
    · obtain ⟨B, hB⟩ := hr1 blk1 off1 len1 cap1 rfl
      exact GQ (Mj ((YZ 50 len0 fun i => .int .i64 (A i)) ++ (YZ 51 len1 fun i => .int .u8 (AA (B i).toNat)))) LD (by decide : 2 ≤ 100) [(50, ⟨blk0, off0, 0⟩), (51, ⟨blk1, off1, 0⟩)] [.sl 50 0 len0 (.ex cap0), .sl 51 0 len1 (.ex cap1), .bool x2] [.slice (some ⟨blk0, off0, none⟩) len0 cap0, .slice (some ⟨blk1, off1, none⟩) len1 cap1, .bool x2] w (fun id i h => by simp only [Go.Og.look] at h; (repeat' split at h) <;> first | (cases h; done) | (rename_i he; have := BK he; omega)) (jS (Ox (g := fun i => .int .i64 (A i)) rfl (fun i => ⟨rfl, rfl⟩) (fun i hi => (hA i hi).1)) (Ox (g := fun i => .int .u8 (AA (B i).toNat)) rfl (fun i => ⟨rfl, rfl⟩) (fun i hi => by rw [(hB i hi).1]; congr 2; exact (ZP (hB i hi).2).2))) (by simp [Ax, Ao, LQ, Go.Og.look, BI.cap, Addr.add])
            (Mw (c := cN len1 B) (VG fun h => by have := KV (q := 50) (f := fun i => V.int .i64 (A i)) (X := (YZ 51 len1 fun i => .int .u8 (AA (B i).toNat))) h; exact this) rfl (bY fun i hi => (hB i hi).2) (by rw [mU]; exact ba (fun h => YF (q := 51) (q' := 50) (f := fun i => V.int .u8 (AA (B i).toNat)) (by decide) h) h0) x2)
theorem Rx : laidOutB Tryz.prog = true := by kernel_rfl
theorem own : ownKnob Tryz.prog.godebug = none := by kernel_rfl
theorem rK (os : Os) (started : os.Started) (H : Type) (enc : TypeId × Value → H) :
    ReturnsInHanded {} Tryz.checked os 5 .any (fun w args => (Rows.derinKeepsSpec.pre enc Tryz.prog Tryz.f5 Rows.derinKeepsRow.domain false w args ∧ laidMetH Tryz.prog Rows.derinKeepsRow.laid w) ∧ sizedMet enc Tryz.prog Tryz.f5 (OpenSpec.ofChange Rows.derinKeepsSpec) false w args)
      (Rows.derinKeepsSpec.post enc Tryz.prog Tryz.f5 false true false false) := by
  refine returnsInHanded_of_change_and (C := Tryz.checked) (X := fun w _ => laidMetH Tryz.prog Rows.derinKeepsRow.laid w) (fun _ _ _ hh h => h.of_heap hh) own started (by kernel_rfl) Tryz.func5
    (ChangeSpec.witness_shaped (enc := enc) (C := Tryz.checked) (os := os) (X := fun w _ => laidMetH Tryz.prog Rows.derinKeepsRow.laid w) false (World.laidAll Tryz.prog os Rows.derinKeepsRow.laid) #[.slice none 0 0, .slice none 0 0, .bool false] 8 (World.laidAll_os _ _ _)
      (World.shaped_of_ZipB (by kernel_rfl) (by kernel_rfl)) (by kernel_rfl) (by kernel_rfl) (by kernel_rfl)
      (by rw [MakeChecks.laidMetH_plain _ _ _ (by kernel_rfl)]; exact laidMet_laidAll _ (by kernel_rfl) (by kernel_rfl))) ?_
  intro W base args ds gs before hval0 hW hc _ hL _
  have hval : ∀ (j : Nat) t v, Tryz.f5.params[j]? = some t → args[j]? = some v → Value.okWide Tryz.prog W .any base t v := hval0
  have hW' := hW
  obtain ⟨p, q, hA0, hV, rfl, _, _⟩ := hW
  have hA : DataW.TrodAll enc Tryz.prog W 0 (fun _ => true) true Tryz.f5.params.toList args.toList ds p := hA0
  have hlt : ∀ y ∈ p, y.block < W.heap.size := DataW.TrodAll.lt hA
  rw [Tryz.params5] at hA hval
  obtain ⟨x0, x1, v2, d0, d1, d2, p0, p1, p2, rfl, rfl, rfl, h0, h1, h2⟩ := trodAll_three hA
  obtain ⟨rfl, rfl⟩ := trodVars_none hV
  have hx0 := O3 Tryz.underlying23 (by have h := hval 0 23 x0 rfl rfl; unfold Value.okWide at h; rw [Tryz.underlying23] at h; exact h)
  have hx1 := O3 Tryz.underlying29 (by have h := hval 1 29 x1 rfl rfl; unfold Value.okWide at h; rw [Tryz.underlying29] at h; exact h)
  obtain ⟨x2, rfl⟩ := okWide_bool Tryz.underlying4 (hval 2 4 v2 rfl rfl)
  simp only [CF] at hW'
  refine (AFI x0 x1 x2 hx0 hx1 W (fun blk off len cap e => by subst e; exact TB Tryz.underlying23 Tryz.underlying3 (by kernel_rfl) h0) (fun blk off len cap e => by subst e; exact TB Tryz.underlying29 Tryz.underlying5 (by kernel_rfl) h1)).mono fun e W' ⟨he, hb⟩ => ?_
  subst he
  refine ⟨_, rfl, _, _, _, [], p0 ++ (p1 ++ p2), [], hW', ?_, ?_, ?_, World.keptBut_mono (fun _ f => f.elim) (hb.frame (fun _ => False)), fun h => by cases h⟩
  · exact trodAll_mk1 (shut_bool Tryz.underlying4 true)
  · exact trodAll_mk3 (Below.trod Rx (by kernel_rfl) (of_decide_eq_true (by kernel_rfl)) h0 hb (fun y hy => hlt y (by simp [hy]))) (Below.trod Rx (by kernel_rfl) (of_decide_eq_true (by kernel_rfl)) h1 hb (fun y hy => hlt y (by simp [hy]))) (Below.trod Rx (by kernel_rfl) (of_decide_eq_true (by kernel_rfl)) h2 hb (fun y hy => hlt y (by simp [hy])))
  · rfl
theorem AFP : Rows.DerinKeepsSaid :=
 OpenClaim.holds_of_wide 5 Tryz.f5 rfl rfl rfl rfl rfl rfl rfl ⟨rfl, rfl, rfl, rfl, rfl⟩ rfl rfl rfl rfl rfl (by kernel_rfl) Tryz.func5 (by unfold joinedFacts; rw [YK, Ry, Ut, TV]; kernel_rfl)
  (of_decide_eq_true (by kernel_rfl)) (by unfold Func.isWrapper; first | (rw [if_pos (by decide +kernel)]; kernel_rfl) | (rw [if_neg (by decide +kernel)]; exact ⟨rfl, rfl⟩))
  (fun os started H enc _ => rK os started H enc)
theorem WM (f : FuncId) (fn : Func) (hf : Tryz.pinned.checked.prog.funcNamed Rows.derinKeepsRow.func = some f) (hfn : Tryz.pinned.checked.prog.funcs[f]? = some fn) :
  false = Tryz.pinned.checked.prog.looks [] ∧ ∀ (j : Nat) t, fn.params[j]? = some t → Tryz.pinned.checked.prog.wantsStandIn t = false := by
 obtain rfl : f = 5 := AM.inj ((show Tryz.prog.funcNamed Rows.derinKeepsRow.func = some 5 by kernel_rfl).symm.trans hf) |>.symm
 obtain rfl : fn = Tryz.f5 := (AM.inj (Tryz.func5.symm.trans hfn)).symm
 refine ⟨by kernel_rfl, fun j t ht => ?_⟩
 rw [Tryz.params5] at ht
 have hm := KG ht
 simp only [List.mem_toArray, Ae, Cl, or_false] at hm
 rcases hm with rfl | rfl | rfl
 ·exact (show Tryz.prog.wantsStandIn 23 = false by kernel_rfl)
 ·exact (show Tryz.prog.wantsStandIn 29 = false by kernel_rfl)
 ·exact (show Tryz.prog.wantsStandIn 4 = false by kernel_rfl)
theorem card : Rows.DerinKeepsCardSaid :=
 Claim7.holds_tied_plain_at .later [] _ _ _ _ AFP (fun _ h => by cases h) (by kernel_rfl) (fun _ h => by cases h) derinKeeps_row_tie rfl ⟨rfl, rfl⟩ (by kernel_rfl) rfl WM (by kernel_rfl)
#print axioms card
end Go.Proofs.YtoengnbdallegaaGreatDoor.derinKeeps
