/- oghamlaw20.UperinOpen answers true for every input: the tied card. No condition beyond the row's own. -/
import Derived.Test.YtgjjnbddbbhloaaGreatDoorCards
import Derived.Test.YtgjjnbddbbhloaaGreatDoorTie
import Derived.WalkKit
import Derived.ProofKit
import Derived.OpenShut
import Derived.Carry
import Derived.LaidMore
import Derived.Lay
import Derived.SevenTiedAt
import Derived.Stop.Joined
import Derived.Test.YtgjjnbddbbhloaaGreatDoorQ6
set_option maxRecDepth 100000
set_option maxHeartbeats 0
set_option linter.all false
namespace Go.Proofs.YtgjjnbddbbhloaaGreatDoor.uperinOpen
open Go Go.Og Go.ChangeShapes Go.WideShapes Go.ChangeAt Go.RowKit
theorem soundT (E : List (Nat × Blk)) : SoundFn Tryz.prog E glob 9 (F9 E (TW E 60) (drawW E (TW E 60)) 200000) := SF9 E (TW E 60) (TW_ok E 60) 200000
theorem soundD (E : List (Nat × Blk)) : SoundFn Tryz.prog E glob 9 (F9 E (D1 E) (drawW E (D1 E)) 100000) := SF9 E (D1 E) (D1_ok E) 100000
theorem walk (x0 : Value) (hx0 : x0 = .slice none 0 0 ∨ ∃ blk off len cap, x0 = .slice (some ⟨blk, off, none⟩) len cap) (w : World)
  (hrow : ∀ blk off len cap, x0 = .slice (some ⟨blk, off, none⟩) len cap → len ≤ cap ∧ ∃ B : Nat → Int, ∀ i, i < len → w.cell? ⟨blk, off + i, none⟩ = some (.int .u8 (B i)) ∧ (Lit.int .u8 (B i)).wf = true) :
  Calls Tryz.prog 9 #[x0] w fun e w' => e = .returned (.bool true) ∧ RowKit.Below w.heap.size w w' := by
 rcases hx0 with rfl | ⟨blk, off, len, cap, rfl⟩
 ·exact law_belowE (soundD []) globLt (by decide : 2 ≤ 100) [] [.nils] [.slice none 0 0] w (fun id i h => by simp [Go.Og.look] at h) (fun id b hb => by simp [Go.Og.look] at hb) (by simp [concs, conc, argR, Go.Og.look]) run_nils
 obtain ⟨hcap, B, hB⟩ := hrow blk off len cap rfl
 have hlk : ∀ id i, Go.Og.look [(50, (⟨blk, off, 0⟩ : BI))] id = some i → id < 100 := fun id i h => by
  simp only [Go.Og.look] at h
  split at h
  ·rename_i he; have := Nat.eq_of_beq_eq_true he; omega
  ·cases h
 have hBr : ∀ i, i < len → 0 ≤ B i ∧ B i ≤ 255 := fun i hi => by
  have h3 : (decide (IntKind.min .u8 ≤ B i) && decide (B i ≤ IntKind.max .u8)) = true := (hB i hi).2
  simp only [Bool.and_eq_true, decide_eq_true_eq] at h3
  exact h3
 have hC : ∀ i, i < len → w.cell? ⟨blk, off + i, none⟩ = some (.int .u8 (Int.ofNat (B i).toNat)) := fun i hi => by
  rw [(hB i hi).1]
  exact congrArg (fun n => some (Value.int .u8 n)) (Int.toNat_of_nonneg (hBr i hi).1).symm
 have hcon : concs (argR 2 [(50, (⟨blk, off, 0⟩ : BI))]) [.sl 50 0 len (.ex cap)] = some [.slice (some ⟨blk, off, none⟩) len cap] := by simp [concs, conc, argR, Go.Og.look]
 by_cases h0 : len = 0
 ·subst h0
  exact law_belowE (soundD []) globLt (by decide : 2 ≤ 100) [(50, ⟨blk, off, 0⟩)] [.sl 50 0 0 (.ex cap)] [.slice (some ⟨blk, off, none⟩) 0 cap] w hlk (fun id b hb => by simp [Go.Og.look] at hb) hcon (run_empty cap)
 by_cases hbig : 60 < len
 ·exact law_belowE (soundT []) globLt (by decide : 2 ≤ 100) [(50, ⟨blk, off, 0⟩)] [.sl 50 0 len (.ex cap)] [.slice (some ⟨blk, off, none⟩) len cap] w hlk (fun id b hb => by simp [Go.Og.look] at hb) hcon (law_big (fun κ => rfl) hbig)
 have one : ∀ v : Nat, len = 1 → B 0 = Int.ofNat v → (∀ c, okB (F9 [(50, .cells [.int .u8 (Int.ofNat v)])] (D1 [(50, .cells [.int .u8 (Int.ofNat v)])]) (drawW [(50, .cells [.int .u8 (Int.ofNat v)])] (D1 [(50, .cells [.int .u8 (Int.ofNat v)])])) 100000 [.sl 50 0 1 (.ex (c + 1))] ⟨100, []⟩) = true) →
   Calls Tryz.prog 9 #[.slice (some ⟨blk, off, none⟩) len cap] w fun e w' => e = .returned (.bool true) ∧ RowKit.Below w.heap.size w w' := fun v h1 hv hrun => by
  subst h1
  obtain ⟨c, rfl⟩ : ∃ c, cap = c + 1 := ⟨cap - 1, by omega⟩
  refine law_belowE (soundD [(50, .cells [.int .u8 (Int.ofNat v)])]) globLt (by decide : 2 ≤ 100) [(50, ⟨blk, off, 0⟩)] [.sl 50 0 1 (.ex (c + 1))] [.slice (some ⟨blk, off, none⟩) 1 (c + 1)] w hlk (ext_one rfl ?_) hcon (hrun c)
  refine ext_row (by simp) fun k u hk => ?_
  have hk0 : k = 0 := by
   rcases Nat.eq_zero_or_pos k with h | h
   ·exact h
   ·rw [List.getElem?_eq_none (by simp only [List.length_cons, List.length_nil]; omega)] at hk; cases hk
  subst hk0
  cases hk
  exact ⟨.int .u8 (Int.ofNat v), rfl, rfl, by have := (hB 0 (by decide)).1; rw [hv] at this; exact this⟩
 by_cases hz : len = 1 ∧ (B 0 = Int.ofNat 0 ∨ B 0 = Int.ofNat 128)
 ·obtain ⟨h1, hz | hz⟩ := hz
  ·exact one 0 h1 hz run_0
  ·exact one 128 h1 hz run_128
 let O : List Nat := (List.range len).map fun i => (B i).toNat
 have hO : O.length = len := by simp [O]
 refine law_belowE (soundT [(50, .cells ((List.range len).map fun i => .int .u8 (Int.ofNat (B i).toNat)))]) globLt (by decide : 2 ≤ 100) [(50, ⟨blk, off, 0⟩)] [.sl 50 0 len (.ex cap)] [.slice (some ⟨blk, off, none⟩) len cap] w hlk
  (ext_one rfl (ext_list (g := fun i => .int .u8 (Int.ofNat (B i).toNat)) (fun i => ⟨rfl, rfl⟩) hC h0)) hcon
  (law_no (O := O) (by omega) (by omega) (fun c hc => ?_) ?_ (.inr (.inr ⟨50, 0, .ex cap, (List.range len).map fun i => .int .u8 (Int.ofNat (B i).toNat), ?_, .inr ⟨rfl, ?_⟩, ?_, ?_⟩)) hcap (fun b hb => by cases hb; decide))
 ·obtain ⟨i, hi, rfl⟩ := List.mem_map.1 hc
  have := hBr i (List.mem_range.1 hi)
  omega
 ·by_cases h1 : len = 1
  ·refine .inr ⟨(B 0).toNat, ?_, fun h => hz ⟨h1, ?_⟩⟩
   ·show (List.range len).map _ = _
    rw [h1]; rfl
   ·have := hBr 0 (by omega)
    have h2 : (B 0).toNat = 0 ∨ (B 0).toNat = 128 := by omega
    have h3 := Int.toNat_of_nonneg this.1
    rcases h2 with h2 | h2 <;> rw [h2] at h3
    ·exact .inl h3.symm
    ·exact .inr h3.symm
  ·exact .inl (by omega)
 ·show V.sl 50 0 len (.ex cap) = .sl 50 0 (nI O).length (.ex cap)
  rw [nI_length, hO]
 ·rw [lookF_cons, if_pos rfl]
 ·rw [nI_length]; simp [O]
 ·rw [nI_length, List.drop_zero, hO]
  rw [show ((List.range len).map fun i => V.int .u8 (Int.ofNat (B i).toNat)).take len = (List.range len).map fun i => V.int .u8 (Int.ofNat (B i).toNat) from List.take_of_length_le (by simp)]
  simp [u8s, nI, O, List.map_map, Function.comp_def]
theorem laidOut : laidOutB Tryz.prog = true := by kernel_rfl
theorem own : ownKnob Tryz.prog.godebug = none := by kernel_rfl
theorem lifted (os : Os) (started : os.Started) (H : Type) (enc : TypeId × Value → H) :
    ReturnsInHanded {} Tryz.checked os 9 .any (fun w args => (Rows.uperinOpenSpec.pre enc Tryz.prog Tryz.f9 Rows.uperinOpenRow.domain false w args ∧ laidMetH Tryz.prog Rows.uperinOpenRow.laid w) ∧ sizedMet enc Tryz.prog Tryz.f9 (OpenSpec.ofChange Rows.uperinOpenSpec) false w args)
      (Rows.uperinOpenSpec.post enc Tryz.prog Tryz.f9 false true false false) := by
  refine returnsInHanded_of_change_and (C := Tryz.checked) (X := fun w _ => laidMetH Tryz.prog Rows.uperinOpenRow.laid w) (fun _ _ _ hh h => h.of_heap hh) own started (by kernel_rfl) Tryz.func9
    (ChangeSpec.witness_shaped (enc := enc) (C := Tryz.checked) (os := os) (X := fun w _ => laidMetH Tryz.prog Rows.uperinOpenRow.laid w) false (World.laidAll Tryz.prog os Rows.uperinOpenRow.laid) #[.slice none 0 0] 8 (World.laidAll_os _ _ _)
      (World.shaped_of_ZipB (by kernel_rfl) (by kernel_rfl)) (by kernel_rfl) (by kernel_rfl) (by kernel_rfl)
      (by rw [MakeChecks.laidMetH_plain _ _ _ (by kernel_rfl)]; exact laidMet_laidAll _ (by kernel_rfl) (by kernel_rfl))) ?_
  intro W base args ds gs before hval0 hW hc _ hL _
  have hval : ∀ (j : Nat) t v, Tryz.f9.params[j]? = some t → args[j]? = some v → Value.okWide Tryz.prog W .any base t v := hval0
  have hW' := hW
  obtain ⟨p, q, hA0, hV, rfl, _, _⟩ := hW
  have hA : DataW.TrodAll enc Tryz.prog W 0 (fun _ => true) true Tryz.f9.params.toList args.toList ds p := hA0
  have hlt : ∀ y ∈ p, y.block < W.heap.size := DataW.TrodAll.lt hA
  rw [Tryz.params9] at hA hval
  obtain ⟨x0, d0, rfl, rfl, h0⟩ := trodAll_one hA
  obtain ⟨rfl, rfl⟩ := trodVars_none hV
  have hx0 := cell_slice Tryz.underlying34 (by have h := hval 0 34 x0 rfl rfl; unfold Value.okWide at h; rw [Tryz.underlying34] at h; exact h)
  simp only [List.append_nil] at hW'
  refine (walk x0 hx0 W (fun blk off len cap e => by subst e; exact ⟨row_cap Tryz.underlying34 (by kernel_rfl) h0, row_ints Tryz.underlying34 Tryz.underlying5 (by kernel_rfl) h0⟩)).mono fun e W' ⟨he, hb⟩ => ?_
  subst he
  refine ⟨_, rfl, _, _, _, [], p, [], hW', ?_, ?_, ?_, World.keptBut_mono (fun _ f => f.elim) (hb.frame (fun _ => False)), fun h => by cases h⟩
  · exact trodAll_mk1 (shut_bool Tryz.underlying4 true)
  · exact trodAll_mk1 (Below.trod laidOut (by kernel_rfl) (of_decide_eq_true (by kernel_rfl)) h0 hb (fun y hy => hlt y hy))
  · rfl
theorem said : Rows.UperinOpenSaid :=
 OpenClaim.holds_of_wide 9 Tryz.f9 rfl rfl rfl rfl rfl rfl rfl ⟨rfl, rfl, rfl, rfl, rfl⟩ rfl rfl rfl rfl rfl (by kernel_rfl) Tryz.func9 (by unfold joinedFacts; rw [k_inPlace, k_unfollowed, k_recurses, k_varsNamed]; kernel_rfl)
  (of_decide_eq_true (by kernel_rfl)) (by unfold Func.isWrapper; first | (rw [if_pos (by decide +kernel)]; kernel_rfl) | (rw [if_neg (by decide +kernel)]; exact ⟨rfl, rfl⟩))
  (fun os started H enc _ => lifted os started H enc)
theorem plain (f : FuncId) (fn : Func) (hf : Tryz.pinned.checked.prog.funcNamed Rows.uperinOpenRow.func = some f) (hfn : Tryz.pinned.checked.prog.funcs[f]? = some fn) :
  false = Tryz.pinned.checked.prog.looks [] ∧ ∀ (j : Nat) t, fn.params[j]? = some t → Tryz.pinned.checked.prog.wantsStandIn t = false := by
 obtain rfl : f = 9 := Option.some.inj ((show Tryz.prog.funcNamed Rows.uperinOpenRow.func = some 9 by kernel_rfl).symm.trans hf) |>.symm
 obtain rfl : fn = Tryz.f9 := (Option.some.inj (Tryz.func9.symm.trans hfn)).symm
 refine ⟨by kernel_rfl, fun j t ht => ?_⟩
 rw [Tryz.params9] at ht
 have hm := Array.mem_of_getElem? ht
 simp only [List.mem_toArray, List.mem_cons, List.not_mem_nil, or_false] at hm
 rcases hm with rfl
 ·exact (show Tryz.prog.wantsStandIn 34 = false by kernel_rfl)
theorem card : Rows.UperinOpenCardSaid :=
 Claim7.holds_tied_plain_at .later [] _ _ _ _ said (fun _ h => by cases h) (by kernel_rfl) (fun _ h => by cases h) uperinOpen_row_tie rfl ⟨rfl, rfl⟩ (by kernel_rfl) rfl plain (by kernel_rfl)
#print axioms card
end Go.Proofs.YtgjjnbddbbhloaaGreatDoor.uperinOpen
