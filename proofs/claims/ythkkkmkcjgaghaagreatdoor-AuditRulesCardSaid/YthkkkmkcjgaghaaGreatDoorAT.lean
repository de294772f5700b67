/- AuditRules: the law comes to its loop, with the remainder in the place of the argument. No condition. -/
import Derived.Test.YthkkkmkcjgaghaaGreatDoorAU
import Derived.Test.YthkkkmkcjgaghaaGreatDoorAB
set_option maxRecDepth 100000
set_option maxHeartbeats 0
set_option linter.all false
namespace Go.Proofs.YthkkkmkcjgaghaaGreatDoor.auditRules
open Go Go.Og
noncomputable section
theorem denK_succ (B : Den → Den) (kn : List (Nat × List Con)) (gc : List Nat) (d f : Nat) : denK B kn gc (d + 1) f = (match lookF kn f with
    | some l => fun args σ => findC l args σ (gcK gc f σ.next (B (denK B kn gc d) f args σ))
    | none => fun args σ => gcK gc f σ.next (B (denK B kn gc d) f args σ)) := rfl
theorem lookKn : lookF kn 3 = none := by kernel_rfl
theorem memGc : memN gcl 3 = false := by kernel_rfl
theorem lookTab (D : Den) : lookF (ftab [] 100000 D) 3 = some (F3 [] D (drawW [] D) 100000) := by kernel_rfl
theorem rtCons_c (v : V) (l : List V) (κ : V → List V → Ans) : rtCons (v :: l) κ = κ v l := rfl
theorem rtNil_n (a : Ans) : rtNil [] a = a := rfl
theorem rtInt_i (n : Int) (κ : Int → Ans) : rtInt .i64 (.int .i64 n) κ = κ n := by simp [rtInt]
theorem chk_i (n : Int) (a : Ans) : chk (V.int .i64 n).live a = a := rfl
theorem step0 (D : Den) (a b : Int) (σ : H) : F3 [] D (drawW [] D) 100000 [.int .i64 a, .int .i64 b] σ = L3_2 [] D (drawW [] D) 100000 100000 (addF .i64 (Int.ofNat 2) (wrapF .i64 (Int.tmod (wrapF .u64 a) (Int.ofNat 4)))) b (V.fn 6 [] []) V.nils (Int.ofNat 0) σ := by
  delta F3
  rw [rtCons_c, rtInt_i, rtCons_c, rtInt_i, rtNil_n]
  simp only [J3_0, T3_0]
theorem step1 (a b : Int) : denK (BD [] 100000) kn gcl 61 3 [.int .i64 a, .int .i64 b] ⟨100, []⟩ = L3_2 [] (denK (BD [] 100000) kn gcl 60) (drawW [] (denK (BD [] 100000) kn gcl 60)) 100000 100000 (addF .i64 (Int.ofNat 2) (wrapF .i64 (Int.tmod (wrapF .u64 a) (Int.ofNat 4)))) b (V.fn 6 [] []) V.nils (Int.ofNat 0) ⟨100, []⟩ := by
  rw [denK_succ, lookKn]
  simp only [gcK, memGc]
  unfold BD
  rw [lookTab]
  exact step0 _ a b _
section
variable {D : Den} {N : Nat} {b y : Int} {R S : Int → Int → V → V → Int → H → Ans}
theorem a3 (h : ∀ v0 v5 v6 v7 σ, R v0 b v5 v6 v7 σ = S v0 y v5 v6 v7 σ) (v0 : Int) (v5 v6 : V) (v7 : Int) (σ : H) : J3_3 [] D (drawW [] D) N R v0 b v5 v6 v7 σ = J3_3 [] D (drawW [] D) N S v0 y v5 v6 v7 σ := by
  simp only [J3_3, T3_3, h]
theorem a4 (h : ∀ v0 v5 v6 v7 σ, R v0 b v5 v6 v7 σ = S v0 y v5 v6 v7 σ) (v0 : Int) (v5 v6 : V) (v7 : Int) (v8b v8o : Nat) (σ : H) : J3_4 [] D (drawW [] D) N R v0 b v5 v6 v7 v8b v8o σ = J3_4 [] D (drawW [] D) N S v0 y v5 v6 v7 v8b v8o σ := by
  simp only [J3_4, T3_4, a3 h]
theorem L5s (R : Int → Int → V → V → Int → H → Ans) (n : Nat) : L3_5 [] D (drawW [] D) N R (n + 1) = T3_5 [] D (drawW [] D) (J3_4 [] D (drawW [] D) N R) (L3_5 [] D (drawW [] D) N R n) := rfl
theorem L2s (n : Nat) : L3_2 [] D (drawW [] D) N (n + 1) = T3_2 [] D (drawW [] D) (J3_1 [] D (drawW [] D) N) (L3_5 [] D (drawW [] D) N (L3_2 [] D (drawW [] D) N n) N) := rfl
theorem Ly2s (n : Nat) : Ly3_2 [] D (drawW [] D) N (n + 1) = T3_2 [] D (drawW [] D) (Jy3_1 [] D (drawW [] D) N) (L3_5 [] D (drawW [] D) N (Ly3_2 [] D (drawW [] D) N n) N) := rfl
theorem a5 (h : ∀ v0 v5 v6 v7 σ, R v0 b v5 v6 v7 σ = S v0 y v5 v6 v7 σ) (n : Nat) : ∀ (v0 : Int) (v5 v6 : V) (v7 : Int) (v8b v8o : Nat) (v9 : Int) (σ : H),
    L3_5 [] D (drawW [] D) N R n v0 b v5 v6 v7 v8b v8o v9 σ = L3_5 [] D (drawW [] D) N S n v0 y v5 v6 v7 v8b v8o v9 σ := by
  induction n with
  | zero =>
    intro v0 v5 v6 v7 v8b v8o v9 σ
    have hz : ∀ (Q : Int → Int → V → V → Int → H → Ans) x0 x1 x5 x6 x7 xb xo x9 τ, L3_5 [] D (drawW [] D) N Q 0 x0 x1 x5 x6 x7 xb xo x9 τ = none := fun _ _ _ _ _ _ _ _ _ _ => rfl
    rw [hz, hz]
  | succ n ih =>
    intro v0 v5 v6 v7 v8b v8o v9 σ
    rw [L5s, L5s]
    simp only [T3_5, a4 h]
    refine congrArg (fun x => condK (ltF v9 v0) x _) ?_
    have hc : clear 1 G3_0 H3_0 = true := by kernel_rfl
    have hb : But 1 (.int .i64 b) (.int .i64 y) [(0, (V.int .i64 v0)), (1, (V.int .i64 b)), (5, v5), (6, v6), (7, (V.int .i64 v7)), (8, (V.ptr v8b v8o)), (9, (V.int .i64 v9))] [(0, (V.int .i64 v0)), (1, (V.int .i64 y)), (5, v5), (6, v6), (7, (V.int .i64 v7)), (8, (V.ptr v8b v8o)), (9, (V.int .i64 v9))] := by
      refine ⟨fun t ht => ?_, rfl, rfl⟩
      simp only [Og.look]
      split
      · rfl
      · split
        · rename_i h1; exact absurd (Nat.eq_of_beq_eq_true h1).symm ht
        · rfl
    rcases drawW_but (E := []) (D := D) hc (σ := σ) hb with ⟨h1, h2⟩ | ⟨e1, e1', σ1, h1, h2, h3⟩
    · rw [h1, h2]
      simp only [gdrawK]
    · rw [h1, h2]
      simp only [gdrawK, getL, h3.left, h3.right, h3.other 0 (by decide), h3.other 5 (by decide), h3.other 6 (by decide), h3.other 7 (by decide), h3.other 8 (by decide), h3.other 9 (by decide), rtInt_i, chk_i, ih]
end
theorem a2 {D : Den} {N : Nat} {b y : Int} (hy : y = Int.tmod (wrapF .u64 b) (Int.ofNat 6)) (n : Nat) : ∀ (v0 : Int) (v5 v6 : V) (v7 : Int) (σ : H), L3_2 [] D (drawW [] D) N n v0 b v5 v6 v7 σ = Ly3_2 [] D (drawW [] D) N n v0 y v5 v6 v7 σ := by
  have hJ : ∀ v0 v5 v6 σ, J3_1 [] D (drawW [] D) N v0 b v5 v6 σ = Jy3_1 [] D (drawW [] D) N v0 y v5 v6 σ := by
    intro v0 v5 v6 σ
    subst hy
    simp only [J3_1, Jy3_1, T3_1, Ty3_1]
  induction n with
  | zero => intro v0 v5 v6 v7 σ; rfl
  | succ n ih =>
    intro v0 v5 v6 v7 σ
    rw [L2s, Ly2s]
    simp only [T3_2, hJ, a5 ih]
theorem step2 (k : Nat) (_ : k < 4) (b : Int) : L3_2 [] (denK (BD [] 100000) kn gcl 60) (drawW [] (denK (BD [] 100000) kn gcl 60)) 100000 100000 (Int.ofNat (k + 2)) b (V.fn 6 [] []) V.nils (Int.ofNat 0) ⟨100, []⟩ = run (Int.ofNat (k + 2)) (Int.tmod (wrapF .u64 b) (Int.ofNat 6)) := by
  rw [run]
  exact a2 rfl _ _ _ _ _ _
end
end Go.Proofs.YthkkkmkcjgaghaaGreatDoor.auditRules
