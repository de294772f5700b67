/- Number, and module: the walk. -/
import Derived.Test.YtjolbidcficdhaaDoorDr
set_option linter.all false
set_option maxRecDepth 100000
namespace Go.Proofs.YtjolbidcficdhaaDoor
open Go Go.Og
noncomputable section
def numC (v : Int) : List Nat := match v with
  | .ofNat m => digsF 19 m
  | .negSucc m => 45 :: digsF 19 (m + 1)
def In64 (v : Int) : Prop := -9223372036854775808 ≤ v ∧ v ≤ 9223372036854775807
theorem numC_ok {v : Int} (h : In64 v) : NumOk (numC v) v ∧ (numC v).length ≤ 21 ∧ (∀ neg ds, numC v = numT neg ds → Digs ds → ds.getD 0 0 = 48 → ds.length = 1 ∧ neg = false) := by
  obtain ⟨h1, h2⟩ := h
  cases v with
  | ofNat m =>
    simp only [Int.ofNat_eq_natCast] at h1 h2
    obtain ⟨d1, d2, d3, d4, d5, d6⟩ := digsF_ok 19 m (by show m < 100000000000000000000; omega)
    have hne : digsF 19 m ≠ [] := fun h => by rw [h] at d3; simp at d3
    refine ⟨⟨⟨false, digsF 19 m, rfl, d1, hne, ?_⟩, ?_, ?_, ?_⟩, ?_, ?_⟩
    · simp only [d2]; rfl
    · simp only [Int.ofNat_eq_natCast]; omega
    · simp only [Int.ofNat_eq_natCast]; omega
    · show (digsF 19 m).length ≤ _; omega
    · show (digsF 19 m).length ≤ _; omega
    · intro neg ds he hd h48
      cases neg with
      | true =>
        exfalso
        have he : digsF 19 m = 45 :: ds := he
        have := d1 45 (by rw [he]; simp)
        omega
      | false =>
        have he : digsF 19 m = ds := he
        subst he
        refine ⟨?_, rfl⟩
        by_cases hm : 0 < m
        · exact absurd h48 (d6 hm)
        · exact d5 (by omega)
  | negSucc m =>
    obtain ⟨d1, d2, d3, d4, d5, d6⟩ := digsF_ok 19 (m + 1) (by show m + 1 < 100000000000000000000; omega)
    have hne : digsF 19 (m + 1) ≠ [] := fun h => by rw [h] at d3; simp at d3
    refine ⟨⟨⟨true, digsF 19 (m + 1), rfl, d1, hne, ?_⟩, ?_, ?_, ?_⟩, ?_, ?_⟩
    · simp only [d2]; omega
    · omega
    · omega
    · show (digsF 19 (m + 1)).length + 1 ≤ _; omega
    · show (digsF 19 (m + 1)).length + 1 ≤ _; omega
    · intro neg ds he hd h48
      exfalso
      cases neg with
      | true =>
        have he : 45 :: digsF 19 (m + 1) = 45 :: ds := he
        have he : digsF 19 (m + 1) = ds := by injection he
        subst he
        exact d6 (by omega) h48
      | false =>
        have he : 45 :: digsF 19 (m + 1) = ds := he
        have := hd 45 (by rw [← he]; simp)
        omega
def SpNumber (F : List V → H → Ans) : Prop := ∀ (σ : H) (v : Int), Tidy σ → In64 v → ∃ σ', F [.int .i64 v] σ = some (.str (ofN (numC v)), σ') ∧ Fr Nowhere σ σ'
theorem number_F {D : Den} {W : DrawFn} {N : Nat} (h : SpDigits 19 (D 17)) : SpNumber (F9 [] D W N) := by
  intro σ v ht hv
  obtain ⟨h1, h2⟩ := hv
  show ∃ σ', T9_0 [] D W v σ = _ ∧ _
  unfold T9_0
  cases v with
  | ofNat m =>
    simp only [Int.ofNat_eq_natCast] at h1 h2
    obtain ⟨σ', g1, g2⟩ := h σ m ht (by show m < 100000000000000000000; omega) (by omega)
    refine ⟨σ', ?_, g2⟩
    rw [show ltF (Int.ofNat m) (Int.ofNat 0) = false by rw [ltF_nat]; exact decide_eq_false (by omega), condK_false, wrapF_nat (k := .u64) (show m ≤ 18446744073709551615 by omega), g1]
    rfl
  | negSucc m =>
    obtain ⟨d1, d2, d3, d4, _⟩ := digsF_ok 19 (m + 1) (by show m + 1 < 100000000000000000000; omega)
    obtain ⟨σ', g1, g2⟩ := h σ (m + 1) ht (by show m + 1 < 100000000000000000000; omega) (by omega)
    refine ⟨σ', ?_, g2⟩
    have e1 : addF .i64 (Int.negSucc m) (Int.ofNat 1) = -(m : Int) := by
      show wrapF .i64 (Int.negSucc m + ((1 : Nat) : Int)) = _
      rw [wrap64 (by omega) (by omega)]; omega
    have e2 : negF .i64 (-(m : Int)) = Int.ofNat m := by
      show wrapF .i64 (0 - (-(m : Int))) = _
      rw [wrap64 (by omega) (by omega)]
      simp only [Int.ofNat_eq_natCast]; omega
    have e3 : addF .u64 (Int.ofNat m) (Int.ofNat 1) = Int.ofNat (m + 1) := wrapF_nat (k := .u64) (m := m + 1) (show _ ≤ 18446744073709551615 by omega)
    rw [show ltF (Int.negSucc m) (Int.ofNat 0) = true from rfl, condK_true, e1, e2, wrapF_nat (k := .u64) (show m ≤ 18446744073709551615 by omega), e3, g1]
    simp only [callK_some_, rtStr_str]
    rw [show (BS.mk 1 45) = ofN [45] from by decide +kernel, catK_ofN (fun c hc => by simp at hc; omega) d1.bd (by simp; omega)]
    rfl
end
end Go.Proofs.YtjolbidcficdhaaDoor
