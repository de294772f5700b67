/- oghamlaw06.PrintCons answers true for every input: the tied card. No condition beyond the row's own. -/
import Derived.Lib.LaidTab
import Derived.LaidSub
import Derived.Test.YtabnjnkmdknhaaaGreatDoorCards
import Derived.Test.YtabnjnkmdknhaaaGreatDoorTie
import Derived.WalkKit
import Derived.ProofKit
import Derived.OpenShut
import Derived.Carry
import Derived.LaidMore
import Derived.Lay
import Derived.SevenTiedAt
import Derived.Stop.Joined
import Derived.Test.YtabnjnkmdknhaaaGreatDoorQ4
set_option maxRecDepth 100000
set_option maxHeartbeats 0
set_option linter.all false
namespace Go.Proofs.YtabnjnkmdknhaaaGreatDoor.printCons
open Go Go.Og Go.ChangeShapes Go.WideShapes Go.ChangeAt Go.RowKit

/-! ### what the evaluator answers -/
theorem wf_in {n : Int} (h : (Lit.int .i64 n).wf = true) : In64i n := by
  have h3 : (decide (IntKind.min .i64 ≤ n) && decide (n ≤ IntKind.max .i64)) = true := h
  simp only [Bool.and_eq_true, decide_eq_true_eq] at h3
  exact h3
theorem trod_wf {H : Type} {enc : TypeId × Value → H} {P : Program} {w : World} {t : TypeId} {k : IntKind} {x : Int} {d : DataW H} {ps : List MemPlace} (he : P.underlying t = some (.int k)) (h : DataW.Trod enc P w 0 (fun _ => true) true t (.int k x) d ps) : (Lit.int k x).wf = true := by
  obtain ⟨n, h⟩ := h
  cases n with
  | zero => simp [DataW.trod] at h
  | succ n =>
    unfold DataW.trod at h
    rw [he] at h
    simp only [Value.cells] at h
    split at h <;> simp_all
/-- The name of the table of powers. -/
def pwN : String := Rows.printConsRow.named.getD 2 ""
def pwZ : List Int := (List.range 20).map fun k => Int.ofNat (10 ^ k)
theorem pw_cell {W : World} (h : laidMetH Tryz.prog Rows.printConsRow.laid W) (i : Nat) (hi : i < 20) : W.cell? ⟨2, 0 + i, none⟩ = some (.int .u64 (Int.ofNat (10 ^ i))) := by
  have h1 := h.filter (fun x => x.1 == pwN)
  have e : (Rows.printConsRow.laid.filter fun x => x.1 == pwN) = [(pwN, Lib.tabData .u64 pwZ)] := by kernel_rfl
  rw [e, MakeChecks.laidMetH_plain _ _ _ (by kernel_rfl)] at h1
  have hT := Lib.tabIs_of_head (g := 2) (t := 165) (e := 36) (n := 20) (by kernel_rfl) (by kernel_rfl) Tryz.underlying165 Tryz.underlying36 (by kernel_rfl) (by kernel_rfl) h1
  have hl : pwZ.length = 20 := by kernel_rfl
  have hc := hT.cell (g := 2) (by kernel_rfl) i (by omega)
  rw [Nat.zero_add, hc]
  unfold pwZ
  rw [List.getD_eq_getElem?_getD, List.getElem?_map, List.getElem?_range hi]; rfl
theorem ext_pw {w : World} (h : ∀ i, i < 20 → w.cell? ⟨2, 0 + i, none⟩ = some (.int .u64 (Int.ofNat (10 ^ i)))) : ∀ id b, Go.Og.look [(2, Blk.cells p10C)] id = some b → ∃ i, argR 8 [] id = some i ∧ ExtOk (argR 8 []) i b w :=
  ext_one (i := ⟨2, 0, 0⟩) rfl (ext_list (g := fun i => .int .u64 (Int.ofNat (10 ^ i))) (fun i => ⟨rfl, rfl⟩) h (by decide))

/-! ### the model -/
theorem walk (x0 x1 x2 : Int) (x3 : Bool) (w : World) (i0 : In64i x0) (i1 : In64i x1) (h : ∀ i, i < 20 → w.cell? ⟨2, 0 + i, none⟩ = some (.int .u64 (Int.ofNat (10 ^ i)))) :
    Calls Tryz.prog 3 #[.int .i64 x0, .int .i64 x1, .int .i64 x2, .bool x3] w fun e w' => e = .returned (.bool true) ∧ RowKit.Below w.heap.size w w' :=
  law_belowE (SF3 [(2, .cells p10C)] (TW [(2, .cells p10C)] 59) (TW_ok [(2, .cells p10C)] 59) 600000) globLt (by decide : 8 ≤ 100) [] [.int .i64 x0, .int .i64 x1, .int .i64 x2, .bool x3] [.int .i64 x0, .int .i64 x1, .int .i64 x2, .bool x3] w (fun id i h => by simp [Go.Og.look] at h) (ext_pw h) (by simp [concs, conc])
    (pc_run rfl x2 x3 i0 i1)
theorem laidOut : laidOutB Tryz.prog = true := by kernel_rfl
theorem own : ownKnob Tryz.prog.godebug = none := by kernel_rfl
theorem lifted (os : Os) (started : os.Started) (H : Type) (enc : TypeId × Value → H) :
    ReturnsInHanded {} Tryz.checked os 3 .any (fun w args => (Rows.printConsSpec.pre enc Tryz.prog Tryz.f3 Rows.printConsRow.domain false w args ∧ laidMetH Tryz.prog Rows.printConsRow.laid w) ∧ sizedMet enc Tryz.prog Tryz.f3 (OpenSpec.ofChange Rows.printConsSpec) false w args)
      (Rows.printConsSpec.post enc Tryz.prog Tryz.f3 false true false false) := by
  refine returnsInHanded_of_change_and (C := Tryz.checked) (X := fun w _ => laidMetH Tryz.prog Rows.printConsRow.laid w) (fun _ _ _ hh h => h.of_heap hh) own started (by kernel_rfl) Tryz.func3
    (ChangeSpec.witness_shaped (enc := enc) (C := Tryz.checked) (os := os) (X := fun w _ => laidMetH Tryz.prog Rows.printConsRow.laid w) false (World.laidAll Tryz.prog os Rows.printConsRow.laid) #[.int .i64 0, .int .i64 0, .int .i64 0, .bool false] 8 (World.laidAll_os _ _ _)
      (World.shaped_of_ZipB (by kernel_rfl) (by kernel_rfl)) (by kernel_rfl) (by kernel_rfl) (by kernel_rfl)
      (by rw [MakeChecks.laidMetH_plain _ _ _ (by kernel_rfl)]; exact laidMet_laidAll _ (by kernel_rfl) (by kernel_rfl))) ?_
  intro W base args ds gs before hval0 hW hc _ hL _
  have hval : ∀ (j : Nat) t v, Tryz.f3.params[j]? = some t → args[j]? = some v → Value.okWide Tryz.prog W .any base t v := hval0
  have hW' := hW
  obtain ⟨p, q, hA0, hV, rfl, _, _⟩ := hW
  have hA : DataW.TrodAll enc Tryz.prog W 0 (fun _ => true) true Tryz.f3.params.toList args.toList ds p := hA0
  have hlt : ∀ y ∈ p, y.block < W.heap.size := DataW.TrodAll.lt hA
  rw [Tryz.params3] at hA hval
  obtain ⟨v0, v1, v2, v3, d0, d1, d2, d3, p0, p1, p2, p3, rfl, rfl, rfl, h0, h1, h2, h3⟩ := trodAll_four hA
  obtain ⟨rfl, rfl⟩ := trodVars_none hV
  obtain ⟨x0, rfl⟩ := cell_int Tryz.underlying2 (by have h := hval 0 2 v0 rfl rfl; unfold Value.okWide at h; rw [Tryz.underlying2] at h; exact h)
  obtain ⟨x1, rfl⟩ := cell_int Tryz.underlying2 (by have h := hval 1 2 v1 rfl rfl; unfold Value.okWide at h; rw [Tryz.underlying2] at h; exact h)
  obtain ⟨x2, rfl⟩ := cell_int Tryz.underlying3 (by have h := hval 2 3 v2 rfl rfl; unfold Value.okWide at h; rw [Tryz.underlying3] at h; exact h)
  obtain ⟨x3, rfl⟩ := okWide_bool Tryz.underlying4 (hval 3 4 v3 rfl rfl)
  simp only [List.append_nil] at hW'
  refine (walk x0 x1 x2 x3 W (wf_in (trod_wf Tryz.underlying2 h0)) (wf_in (trod_wf Tryz.underlying2 h1)) (pw_cell hL)).mono fun e W' ⟨he, hb⟩ => ?_
  subst he
  refine ⟨_, rfl, _, _, _, [], p0 ++ (p1 ++ (p2 ++ p3)), [], hW', ?_, ?_, ?_, World.keptBut_mono (fun _ f => f.elim) (hb.frame (fun _ => False)), fun h => by cases h⟩
  · exact trodAll_mk1 (shut_bool Tryz.underlying4 true)
  · exact trodAll_mk4 (Below.trod laidOut (by kernel_rfl) (of_decide_eq_true (by kernel_rfl)) h0 hb (fun y hy => hlt y (by simp [hy]))) (Below.trod laidOut (by kernel_rfl) (of_decide_eq_true (by kernel_rfl)) h1 hb (fun y hy => hlt y (by simp [hy]))) (Below.trod laidOut (by kernel_rfl) (of_decide_eq_true (by kernel_rfl)) h2 hb (fun y hy => hlt y (by simp [hy]))) (Below.trod laidOut (by kernel_rfl) (of_decide_eq_true (by kernel_rfl)) h3 hb (fun y hy => hlt y (by simp [hy])))
  · rfl

theorem said : Rows.PrintConsSaid :=
  OpenClaim.holds_of_wide 3 Tryz.f3 rfl rfl rfl rfl rfl rfl rfl ⟨rfl, rfl, rfl, rfl, rfl⟩ rfl rfl rfl rfl rfl (by kernel_rfl) Tryz.func3 (by unfold joinedFacts; rw [k_inPlace, k_unfollowed, k_recurses, k_varsNamed]; kernel_rfl)
    (of_decide_eq_true (by kernel_rfl)) (by unfold Func.isWrapper; first | (rw [if_pos (by decide +kernel)]; kernel_rfl) | (rw [if_neg (by decide +kernel)]; exact ⟨rfl, rfl⟩))
    (fun os started H enc _ => lifted os started H enc)
theorem plain (f : FuncId) (fn : Func) (hf : Tryz.pinned.checked.prog.funcNamed Rows.printConsRow.func = some f) (hfn : Tryz.pinned.checked.prog.funcs[f]? = some fn) :
    true = Tryz.pinned.checked.prog.looks [] ∧ ∀ (j : Nat) t, fn.params[j]? = some t → Tryz.pinned.checked.prog.wantsStandIn t = false := by
  obtain rfl : f = 3 := Option.some.inj ((show Tryz.prog.funcNamed Rows.printConsRow.func = some 3 by kernel_rfl).symm.trans hf) |>.symm
  obtain rfl : fn = Tryz.f3 := (Option.some.inj (Tryz.func3.symm.trans hfn)).symm
  refine ⟨by kernel_rfl, fun j t ht => ?_⟩
  rw [Tryz.params3] at ht
  have hm := Array.mem_of_getElem? ht
  simp only [List.mem_toArray, List.mem_cons, List.not_mem_nil, or_false] at hm
  rcases hm with rfl | rfl | rfl | rfl
  · exact (show Tryz.prog.wantsStandIn 2 = false by kernel_rfl)
  · exact (show Tryz.prog.wantsStandIn 2 = false by kernel_rfl)
  · exact (show Tryz.prog.wantsStandIn 3 = false by kernel_rfl)
  · exact (show Tryz.prog.wantsStandIn 4 = false by kernel_rfl)
/-- THE CARD -/
theorem card : Rows.PrintConsCardSaid :=
  Claim7.holds_tied_plain_at .later [] _ _ _ _ said (fun _ h => by cases h) (by kernel_rfl) (fun _ h => by cases h) printCons_row_tie rfl ⟨rfl, rfl⟩ (by kernel_rfl) rfl plain (by kernel_rfl)
#print axioms card
end Go.Proofs.YtabnjnkmdknhaaaGreatDoor.printCons
