/- SyntaxMarks: what the law answers. -/
import Derived.Test.YtjolbidcficdhaaDoorMl
set_option linter.all false
set_option maxRecDepth 100000
set_option maxHeartbeats 1000000
namespace Go.Proofs.YtjolbidcficdhaaDoor
open Go Go.Og
noncomputable section
theorem xDigits : ∀ (k d : Nat), k ≤ 30 → SpDigits k (DT [] 100000 (d + k + 1) 17)
  | 0, d, _ => by
    show SpDigits 0 (DT [] 100000 (d + 1) 17)
    rw [DE17]; exact digits0_F _ _ _
  | k + 1, d, hk => by
    show SpDigits (k + 1) (DT [] 100000 (d + k + 1 + 1) 17)
    rw [DE17]; exact digits_F (xDigits k d (by omega)) (by omega)
theorem xNumber (d : Nat) : SpNumber (DT [] 100000 (d + 21) 9) := by
  rw [DE9]; exact number_F (xDigits 19 d (by omega))
theorem xLmod (d : Nat) : SpLmod (DT [] 100000 (d + 1) 10) := by rw [DE10]; exact lmod_F _ _ _
def yes : List V → H → Ans := fun args σ => match args with
  | [] => some (.bool true, σ)
  | _ :: _ => none
def DL : Den := known (DT [] 100000 60) 6 yes
theorem eqF_self (a : Int) : eqF a a = true := by rw [eqF_eq]; simp
theorem eqMark (v : Int) (m : Nat) (κ : Bool → Ans) : eqK (.flat [(0, .bool), (1, .int), (2, .int)]) (.agg [.bool true, .int .i64 v, .int .i64 (Int.ofNat m)]) (.agg [.bool true, .int .i64 v, .int .i64 (Int.ofNat m)]) κ = κ true := by
  have h : eqTag (.flat [(0, .bool), (1, .int), (2, .int)]) (.agg [.bool true, .int .i64 v, .int .i64 (Int.ofNat m)]) (.agg [.bool true, .int .i64 v, .int .i64 (Int.ofNat m)]) = some true := by
    show eqFlat [(0, .bool), (1, .int), (2, .int)] [.bool true, .int .i64 v, .int .i64 (Int.ofNat m)] [.bool true, .int .i64 v, .int .i64 (Int.ofNat m)] = some true
    simp only [eqFlat, cellAt, eqCell, if_true, eqF_self]
    rfl
  unfold eqK; rw [h]
theorem tidy0 : Tidy ⟨100, []⟩ := fun _ _ => rfl
theorem rem3 (a : Int) : ∃ k, k < 3 ∧ wrapF .i64 (Int.tmod (wrapF .u64 a) (Int.ofNat 3)) = Int.ofNat k := by
  rw [wrapF_eq .u64]
  have h : ∃ m : Nat, IntKind.wrap .u64 a = Int.ofNat m := by
    have : 0 ≤ IntKind.wrap .u64 a := by
      unfold IntKind.wrap; simp only [IntKind.signed, IntKind.bits]; simp; omega
    exact ⟨_, (Int.toNat_of_nonneg this).symm⟩
  obtain ⟨m, hm⟩ := h
  rw [hm]
  have h2 : Int.tmod (Int.ofNat m) (Int.ofNat 3) = Int.ofNat (m % 3) := rfl
  have h3 : m % 3 < 3 := Nat.mod_lt _ (by decide)
  rw [h2]
  exact ⟨m % 3, h3, wrapF_nat (k := .i64) (show m % 3 ≤ 9223372036854775807 by omega)⟩
theorem marks {v : Int} (hv : In64 v) (mo : Int) : okB (F5 [] DL (drawW [] DL) 100000 [.int .i64 v, .int .i64 mo] ⟨100, []⟩) = true := by
  obtain ⟨m, hm, hmo⟩ := rem3 mo
  obtain ⟨σ1, e1, f1, a1, n1⟩ := mk_new tidy0 words3
  have aw : ∀ σ, DL 6 [] σ = some (.bool true, σ) := fun _ => rfl
  have hL : SpLmod (DL 10) := xLmod 59
  obtain ⟨env, σ', σ2, a, b, c, d, e, pv, ev, hdr, l0, l1, l6, l7, l8, q, at6, keep⟩ := reg_marks (D := DL) (xNumber 39) hL hv hm f1.tidy a1 (Q := QQ v m) (fun σ ht => parse_text hv hm 50 σ ht)
  have head : F5 [] DL (drawW [] DL) 100000 [.int .i64 v, .int .i64 mo] ⟨100, []⟩ = T5_0 [] DL (drawW [] DL) v mo ⟨100, []⟩ := by
    simp only [F5, rtCons_cons, rtInt_int, rtNil_nil]
    rfl
  have ld4 : ∀ κ : V → Ans, ldK [] σ' (σ1.next + 16) (Nat.add 0 4) κ = κ e := fun κ => ldK_at at6 rfl
  rw [head]
  unfold T5_0
  rw [hmo]
  have hs : newB ⟨100, []⟩ (.cells words3) = σ1 := e1
  show okB (gdrawK (drawW [] DL G5_0 H5_0 [(0, .int .i64 v), (1, .int .i64 (Int.ofNat m)), (5, .sl 100 0 3 (.ex 3))] (newB ⟨100, []⟩ (.cells words3))) _) = true
  rw [hs]
  have hdr' : drawW [] DL G5_0 H5_0 [(0, .int .i64 v), (1, .int .i64 (Int.ofNat m)), (5, .sl 100 0 3 (.ex 3))] σ1 = some (env, σ') := hdr
  rw [hdr']
  show okB (getL env 0 _) = true
  rw [getL_of l0 rfl, rtInt_int, getL_of l1 rfl, rtInt_int, getL_of l6 rfl, rtPtr_ptr, getL_of l7 rfl, rtInt_int, getL_of l8 rfl, rtInt_int]
  unfold QQ at q
  cases hin : inT v with
  | true =>
    rw [hin] at q
    simp only [] at q
    obtain ⟨rfl, rfl, nb, rfl, hat⟩ := q
    unfold inT at hin
    simp only [Bool.and_eq_true, decide_eq_true_eq] at hin
    have hnb := keep nb _ hat
    have q0 : ltF v (Int.ofNat 0) = false := by rw [ltF_eq]; exact decide_eq_false (by simp; omega)
    have q1 : ltF (Int.ofNat 268435456) v = false := by rw [ltF_eq]; exact decide_eq_false (by simp only [Int.ofNat_eq_natCast]; omega)
    have k1 : eqF (Int.ofNat 0) (Int.ofNat 0) = true := rfl
    have k2 : eqF (Int.ofNat 1) (Int.ofNat 1) = true := rfl
    have sl1 : ∀ κ : Nat → Ans, slenK (.sl nb 0 1 (.op 16)) κ = κ 1 := fun _ => rfl
    have ia : ∀ κ : Nat → Nat → Ans, iaddrSK 16 (.sl nb 0 1 (.op 16)) (Int.ofNat 0) κ = κ nb (Nat.add 0 (Nat.mul 0 16)) := fun κ => iaddrSK_lt (by omega)
    have ldn : ∀ κ : List V → Ans, ldnK [] σ' nb (Nat.add (Nat.add 0 (Nat.mul 0 16)) 2) 3 κ = κ [.bool true, .int .i64 v, .int .i64 (Int.ofNat m)] := fun κ => by
      rw [ldnK_at hnb (by show 0 + 0 * 16 + 2 + 3 ≤ 16; omega)]
      rfl
    simp only [joinB_, q0, q1, condK_false, condK_true, aw, callK_some_, rtBool_bool, k1, ld4, sl1, k2, ia, ldn, rtCons_cons, rtInt_int, rtNil_nil, eqMark]
    rfl
  | false =>
    rw [hin] at q
    simp only [] at q
    obtain ⟨rfl, rfl, rfl⟩ := q
    unfold inT at hin
    rw [Bool.and_eq_false_iff] at hin
    simp only [decide_eq_false_iff_not] at hin
    have k1 : eqF (Int.ofNat 12) (Int.ofNat 12) = true := rfl
    have k0 : eqF (Int.ofNat 0) (Int.ofNat 0) = true := rfl
    have sl0 : ∀ κ : Nat → Ans, slenK .nils κ = κ 0 := fun _ => rfl
    have hl0 : DL 10 [.str (BS.mk 0 0)] σ' = some (.str (ofN (preT ++ [] ++ [32, 69, 78, 68])), σ') := hL σ' [] (fun _ h => by cases h) (by simp)
    have hsub : eqF (Int.ofNat 31) (subF .i64 (Int.ofNat (BS.len (ofN (preT ++ [] ++ [32, 69, 78, 68])))) (Int.ofNat 3)) = true := by decide +kernel
    by_cases h0 : v < 0
    · have q0 : ltF v (Int.ofNat 0) = true := by rw [ltF_eq]; exact decide_eq_true h0
      simp only [joinB_, q0, condK_false, condK_true, aw, callK_some_, rtBool_bool, k1, hl0, rtStr_str, hsub, ld4, sl0, k0]
      rfl
    · have q0 : ltF v (Int.ofNat 0) = false := by rw [ltF_eq]; exact decide_eq_false h0
      have q1 : ltF (Int.ofNat 268435456) v = true := by rw [ltF_eq]; exact decide_eq_true (by simp only [Int.ofNat_eq_natCast]; omega)
      simp only [joinB_, q0, q1, condK_false, condK_true, aw, callK_some_, rtBool_bool, k1, hl0, rtStr_str, hsub, ld4, sl0, k0]
      rfl
theorem awakeOk : okB (DT [] 100000 60 6 [] ⟨100, []⟩) = true := by kernel_rfl
end
end Go.Proofs.YtjolbidcficdhaaDoor
