/- The digits of a number: plain lemmas. -/
import Derived.Test.YtjolbidcficdhaaDoorLz
set_option linter.all false
namespace Go.Proofs.YtjolbidcficdhaaDoor
open Go Go.Og
noncomputable section
theorem cat_canon {a b : BS} (hb : b.canon) : (a.cat b).canon := by
  show a.low ||| b.val <<< (8 * a.len) < 2 ^ (8 * (a.len + b.len))
  have h0 : a.low < 2 ^ (8 * a.len) := Nat.mod_lt _ (Nat.pow_pos (by decide))
  have h1 : a.low < 2 ^ (8 * (a.len + b.len)) := Nat.lt_of_lt_of_le h0 (Nat.pow_le_pow_right (by decide) (by omega))
  have h2 : b.val <<< (8 * a.len) < 2 ^ (8 * (a.len + b.len)) := by
    rw [Nat.shiftLeft_eq, Nat.mul_add, Nat.add_comm, Nat.pow_add]
    exact Nat.mul_lt_mul_of_pos_right hb (Nat.pow_pos (by decide))
  exact Nat.or_lt_two_pow h1 h2
theorem ofN_cat {a b : List Nat} (ha : ∀ c ∈ a, c < 256) (hb : ∀ c ∈ b, c < 256) : (ofN a).cat (ofN b) = ofN (a ++ b) := by
  have hab : ∀ c ∈ a ++ b, c < 256 := fun c hc => by
    rcases List.mem_append.1 hc with h | h
    · exact ha c h
    · exact hb c h
  exact BS.canon_ext (cat_canon (ofN_canon hb)) (ofN_canon hab) (by rw [BS.nats_cat, ofN_nats ha, ofN_nats hb, ofN_nats hab])
theorem catK_ofN {a b : List Nat} (ha : ∀ c ∈ a, c < 256) (hb : ∀ c ∈ b, c < 256) (hl : a.length + b.length ≤ 1000000) (κ : BS → Ans) : catK (ofN a) (ofN b) κ = κ (ofN (a ++ b)) := by
  unfold catK
  rw [show Nat.ble (Nat.add (ofN a).len (ofN b).len) 1000000000000 = true from ble_of (by rw [ofN_len, ofN_len]; show a.length + b.length ≤ _; omega), ofN_cat ha hb]

def digsF : Nat → Nat → List Nat
  | 0, v => [48 + v]
  | k + 1, v => match Nat.blt v 10 with
    | true => [48 + v]
    | false => digsF k (v / 10) ++ [48 + v % 10]
theorem dval_snoc (l : List Nat) (c : Nat) : dval (l ++ [c]) = 10 * dval l + (c - 48) := by
  unfold dval; rw [dvalA_append]; rfl
theorem digsF_ok : ∀ (k v : Nat), v < 10 ^ (k + 1) → Digs (digsF k v) ∧ dval (digsF k v) = v ∧ 0 < (digsF k v).length ∧ (digsF k v).length ≤ k + 1 ∧ (v < 10 → (digsF k v).length = 1) ∧ (0 < v → (digsF k v).getD 0 0 ≠ 48)
  | 0, v, h => by
    have h : v < 10 := by simpa using h
    refine ⟨?_, ?_, by simp [digsF], by simp [digsF], fun _ => rfl, fun hv => by simp [digsF]; omega⟩
    · intro c hc
      simp [digsF] at hc; omega
    · show 10 * 0 + (48 + v - 48) = v
      omega
  | k + 1, v, h => by
    by_cases hv : v < 10
    · have e : digsF (k + 1) v = [48 + v] := by
        show (match Nat.blt v 10 with | true => _ | false => _) = _
        rw [show Nat.blt v 10 = true by simpa [Nat.blt_eq] using hv]
      rw [e]
      refine ⟨?_, ?_, by simp, by simp, fun _ => rfl, fun h => by simp; omega⟩
      · intro c hc
        simp at hc; omega
      · show 10 * 0 + (48 + v - 48) = v
        omega
    · have e : digsF (k + 1) v = digsF k (v / 10) ++ [48 + v % 10] := by
        show (match Nat.blt v 10 with | true => _ | false => _) = _
        rw [show Nat.blt v 10 = false by rw [Bool.eq_false_iff]; simpa [Nat.blt_eq] using hv]
      have hk : v / 10 < 10 ^ (k + 1) := by
        rw [Nat.div_lt_iff_lt_mul (by decide)]
        rw [Nat.pow_succ] at h; exact h
      obtain ⟨h1, h2, h3, h4, h5, h6⟩ := digsF_ok k (v / 10) hk
      rw [e]
      refine ⟨?_, ?_, by simp, by simp; omega, fun h => absurd h hv, fun _ => ?_⟩
      · intro c hc
        rcases List.mem_append.1 hc with hc | hc
        · exact h1 c hc
        · simp at hc; omega
      · rw [dval_snoc, h2]; omega
      · have h7 := h6 (by omega)
        cases hd : digsF k (v / 10) with
        | nil => rw [hd] at h3; simp at h3
        | cons c l => rw [hd] at h7; exact h7
end
end Go.Proofs.YtjolbidcficdhaaDoor
