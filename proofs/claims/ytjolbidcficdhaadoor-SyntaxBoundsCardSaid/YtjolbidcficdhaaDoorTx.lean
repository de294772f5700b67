/- The signs of the texts that the law writes: plain lemmas. -/
import Derived.Test.YtjolbidcficdhaaDoorPm
import Derived.Test.YtjolbidcficdhaaDoorNu
set_option linter.all false
set_option maxRecDepth 100000
namespace Go.Proofs.YtjolbidcficdhaaDoor
open Go Go.Og
noncomputable section
def stepC (r : List Nat) : Option (Nat × List Nat × List Nat) := match letterB (r.getD 0 0) with
  | true => match nameK (r.take (nameLen r)) with
    | 0 => none
    | k + 1 => some (k + 1, r.take (nameLen r), r.drop (nameLen r))
  | false => match digitB (r.getD 0 0) || Nat.beq (r.getD 0 0) 39 || Nat.beq (r.getD 0 0) 34 || Nat.beq (r.getD 0 0) 45 with
    | true => none
    | false => match signOf r with
      | some t => some (6, t.nats, r.drop t.len)
      | none => none
theorem stepC_ok {r w r' : List Nat} {k : Nat} (h : stepC r = some (k, w, r')) : Step r k w r' ∧ 0 < k ∧ 0 < r.length := by
  unfold stepC at h
  have hne : 0 < r.length := by
    cases r with
    | nil => cases h
    | cons _ _ => simp
  cases hl : letterB (r.getD 0 0) with
  | true =>
    rw [hl] at h
    simp only [] at h
    cases hk : nameK (r.take (nameLen r)) with
    | zero => rw [hk] at h; cases h
    | succ n =>
      rw [hk] at h
      simp only [Option.some.injEq, Prod.mk.injEq] at h
      obtain ⟨rfl, rfl, rfl⟩ := h
      exact ⟨Step.name hl hk, Nat.succ_pos _, hne⟩
  | false =>
    rw [hl] at h
    simp only [] at h
    cases hc : (digitB (r.getD 0 0) || Nat.beq (r.getD 0 0) 39 || Nat.beq (r.getD 0 0) 34 || Nat.beq (r.getD 0 0) 45) with
    | true => rw [hc] at h; cases h
    | false =>
      rw [hc] at h
      simp only [] at h
      simp only [Bool.or_eq_false_iff] at hc
      obtain ⟨⟨⟨h1, h2⟩, h3⟩, h4⟩ := hc
      cases hs : signOf r with
      | none => rw [hs] at h; cases h
      | some t =>
        rw [hs] at h
        simp only [Option.some.injEq, Prod.mk.injEq] at h
        obtain ⟨rfl, rfl, rfl⟩ := h
        have ne : ∀ {a b : Nat}, Nat.beq a b = false → a ≠ b := fun hb he => by subst he; rw [Nat.beq_refl] at hb; cases hb
        exact ⟨Step.sign hl h1 (ne h2) (ne h3) (fun he => absurd he (ne h4)) hs, by decide, hne⟩
def runC (N : Nat) : Nat → List Nat → Option (List (Nat × List Nat × List Nat) × List Nat)
  | 0, r => some ([], r)
  | k + 1, r => match stepC r with
    | none => none
    | some (q, w, r1) => match runC N k (skipF N r1) with
      | none => none
      | some (l, r') => some ((q, w, r) :: l, r')
def tk (len : Nat) (q : Nat × List Nat × List Nat) : Tk := (q.1, q.2.1, len - q.2.2.length)
theorem runC_ok {N len : Nat} : ∀ (k : Nat) (r : List Nat) (l : List (Nat × List Nat × List Nat)) (r' : List Nat) (ts : List Tk), runC N k r = some (l, r') → Toks N len r' ts → Toks N len r (l.map (tk len) ++ ts)
  | 0, r, l, r', ts, h, ht => by
    simp only [runC, Option.some.injEq, Prod.mk.injEq] at h
    obtain ⟨rfl, rfl⟩ := h
    exact ht
  | k + 1, r, l, r', ts, h, ht => by
    unfold runC at h
    cases hs : stepC r with
    | none => rw [hs] at h; cases h
    | some x =>
      obtain ⟨q, w, r1⟩ := x
      rw [hs] at h
      simp only [] at h
      cases hr : runC N k (skipF N r1) with
      | none => rw [hr] at h; cases h
      | some y =>
        obtain ⟨l1, r2⟩ := y
        rw [hr] at h
        simp only [Option.some.injEq, Prod.mk.injEq] at h
        obtain ⟨rfl, rfl⟩ := h
        obtain ⟨h1, h2, h3⟩ := stepC_ok hs
        exact Toks.cons h3 h2 h1 (runC_ok k _ _ _ _ hr ht)

/-! ### the texts -/
def preT : List Nat := [77, 32, 68, 69, 70, 73, 78, 73, 84, 73, 79, 78, 83, 32, 58, 58, 61, 32, 66, 69, 71, 73, 78, 32, 65, 32, 58, 58, 61, 32]
def wordT : Nat → List Nat
  | 0 => []
  | 1 => [69, 88, 80, 76, 73, 67, 73, 84, 32]
  | _ => [73, 77, 80, 76, 73, 67, 73, 84, 32]
def sufT (m : Nat) : List Nat := [93, 32] ++ wordT m ++ [78, 85, 76, 76] ++ [32, 69, 78, 68]
def textT (w : List Nat) (m : Nat) : List Nat := preT ++ (91 :: (w ++ sufT m))
theorem signOf_lb {c : Nat} {r : List Nat} (h : c ≠ 91) : signOf (91 :: c :: r) = some (BS.mk 1 91) := by
  have hb : Nat.beq 91 c = false := by rw [Bool.eq_false_iff]; exact fun hh => h (Nat.eq_of_beq_eq_true hh).symm
  have h1 : (BS.mk 2 23387).nats = [91, 91] := by decide +kernel
  have no : ∀ (t : BS) (l : List BS), preB t.nats (91 :: c :: r) = false → signIn (t :: l) (91 :: c :: r) = signIn l (91 :: c :: r) := fun t l ht => by
    show (match preB t.nats (91 :: c :: r) with | true => some t | false => signIn l (91 :: c :: r)) = _
    rw [ht]
  have e1 : (BS.mk 3 4012602).nats = [58, 58, 61] := by decide +kernel
  have e2 : (BS.mk 3 3026478).nats = [46, 46, 46] := by decide +kernel
  have e3 : (BS.mk 2 11822).nats = [46, 46] := by decide +kernel
  have e4 : (BS.mk 2 23901).nats = [93, 93] := by decide +kernel
  have e5 : (BS.mk 1 123).nats = [123] := by decide +kernel
  have e6 : (BS.mk 1 125).nats = [125] := by decide +kernel
  have e7 : (BS.mk 1 91).nats = [91] := by decide +kernel
  unfold signOf signs
  rw [no _ _ (by rw [e1]; rfl), no _ _ (by rw [e2]; rfl), no _ _ (by rw [e3]; rfl), no _ _ (by rw [h1]; show (Nat.beq 91 91 && (Nat.beq 91 c && true)) = false; rw [hb]; rfl), no _ _ (by rw [e4]; rfl), no _ _ (by rw [e5]; rfl), no _ _ (by rw [e6]; rfl)]
  have yes : ∀ (t : BS) (l : List BS), preB t.nats (91 :: c :: r) = true → signIn (t :: l) (91 :: c :: r) = some t := fun t l ht => by
    show (match preB t.nats (91 :: c :: r) with | true => some t | false => signIn l (91 :: c :: r)) = _
    rw [ht]
  exact yes _ _ (by rw [e7]; rfl)
def headL (w : List Nat) (m : Nat) : List (Nat × List Nat × List Nat) :=
  [(1, [77], preT ++ (91 :: (w ++ sufT m))), (5, [68, 69, 70, 73, 78, 73, 84, 73, 79, 78, 83], preT.drop 2 ++ (91 :: (w ++ sufT m))), (6, [58, 58, 61], preT.drop 14 ++ (91 :: (w ++ sufT m))), (5, [66, 69, 71, 73, 78], preT.drop 18 ++ (91 :: (w ++ sufT m))), (1, [65], preT.drop 24 ++ (91 :: (w ++ sufT m))), (6, [58, 58, 61], preT.drop 26 ++ (91 :: (w ++ sufT m)))]
theorem run_head (r : List Nat) : runC 100000 6 (preT ++ (91 :: r)) = some ([(1, [77], preT ++ (91 :: r)), (5, [68, 69, 70, 73, 78, 73, 84, 73, 79, 78, 83], preT.drop 2 ++ (91 :: r)), (6, [58, 58, 61], preT.drop 14 ++ (91 :: r)), (5, [66, 69, 71, 73, 78], preT.drop 18 ++ (91 :: r)), (1, [65], preT.drop 24 ++ (91 :: r)), (6, [58, 58, 61], preT.drop 26 ++ (91 :: r))], 91 :: r) := by kernel_rfl
def tailL (m : Nat) : List (Nat × List Nat × List Nat) := match m with
  | 0 => [(6, [93], sufT 0), (5, [78, 85, 76, 76], (sufT 0).drop 2), (5, [69, 78, 68], (sufT 0).drop 7)]
  | 1 => [(6, [93], sufT 1), (5, [69, 88, 80, 76, 73, 67, 73, 84], (sufT 1).drop 2), (5, [78, 85, 76, 76], (sufT 1).drop 11), (5, [69, 78, 68], (sufT 1).drop 16)]
  | _ => [(6, [93], sufT 2), (5, [73, 77, 80, 76, 73, 67, 73, 84], (sufT 2).drop 2), (5, [78, 85, 76, 76], (sufT 2).drop 11), (5, [69, 78, 68], (sufT 2).drop 16)]
theorem run_tail0 : runC 100000 3 (sufT 0) = some (tailL 0, []) := by kernel_rfl
theorem run_tail1 : runC 100000 4 (sufT 1) = some (tailL 1, []) := by kernel_rfl
theorem run_tail2 : runC 100000 4 (sufT 2) = some (tailL 2, []) := by kernel_rfl
theorem toks_tail (len m : Nat) (hm : m < 3) : Toks 100000 len (skipF 100000 (sufT m)) ((tailL m).map (tk len)) := by
  have h : ∀ k r l, skipF 100000 r = r → runC 100000 k r = some (l, []) → Toks 100000 len (skipF 100000 r) (l.map (tk len)) := fun k r l hs hr => by
    rw [hs]
    have := runC_ok (N := 100000) (len := len) k r l [] [] hr (Toks.nil)
    rwa [List.append_nil] at this
  match m, hm with
  | 0, _ => exact h 3 _ _ (by kernel_rfl) run_tail0
  | 1, _ => exact h 4 _ _ (by kernel_rfl) run_tail1
  | 2, _ => exact h 4 _ _ (by kernel_rfl) run_tail2
theorem skip_stay {n c : Nat} {r : List Nat} (hw : whiteB c = false) (hd : preB [45, 45] (c :: r) = false) : skipF (n + 1) (c :: r) = c :: r := by
  show (match whiteB c with | true => _ | false => (match preB [45, 45] (c :: r) with | true => _ | false => c :: r)) = _
  rw [hw, hd]
def textTs (len : Nat) (w : List Nat) (m : Nat) : List Tk := (headL w m).map (tk len) ++ ((6, [91], len - (91 :: (w ++ sufT m)).length) :: (3, w, len - (w ++ sufT m).length) :: (tailL m).map (tk len))
theorem toks_text {v : Int} (hv : In64 v) (m : Nat) (hm : m < 3) (len : Nat) : Toks 100000 len (skipF 100000 (textT (numC v) m)) (textTs len (numC v) m) := by
  obtain ⟨hok, hl, hlead⟩ := numC_ok hv
  have hsk : skipF 100000 (textT (numC v) m) = textT (numC v) m := skip_stay (by kernel_rfl) (by kernel_rfl)
  rw [hsk]
  unfold textT textTs
  refine runC_ok 6 _ _ _ _ (run_head (numC v ++ sufT m)) ?_
  obtain ⟨neg, ds, hw, hds, hne, hval⟩ := hok.ex
  obtain ⟨d, ds', hdd⟩ : ∃ d ds', ds = d :: ds' := by cases ds with | nil => exact absurd rfl hne | cons d ds' => exact ⟨d, ds', rfl⟩
  have hd := hds d (by rw [hdd]; simp)
  obtain ⟨c, r, hc, hcne, hwh, hpre⟩ : ∃ c r, numC v ++ sufT m = c :: r ∧ c ≠ 91 ∧ whiteB c = false ∧ preB [45, 45] (c :: r) = false := by
    rw [hw, hdd]
    cases neg with
    | true =>
      refine ⟨45, d :: (ds' ++ sufT m), rfl, by decide, rfl, ?_⟩
      show (Nat.beq 45 45 && (Nat.beq 45 d && true)) = false
      have : Nat.beq 45 d = false := by rw [Bool.eq_false_iff]; intro hh; have := Nat.eq_of_beq_eq_true hh; omega
      rw [this]; rfl
    | false =>
      refine ⟨d, ds' ++ sufT m, rfl, by omega, ?_, ?_⟩
      · unfold whiteB
        rw [eqF_nat, eqF_nat, eqF_nat, eqF_nat, decide_eq_false (show ¬ d = 32 by omega), decide_eq_false (show ¬ d = 9 by omega), decide_eq_false (show ¬ d = 10 by omega), decide_eq_false (show ¬ d = 13 by omega)]
        rfl
      · show (Nat.beq 45 d && _) = false
        have : Nat.beq 45 d = false := by rw [Bool.eq_false_iff]; intro hh; have := Nat.eq_of_beq_eq_true hh; omega
        rw [this]; rfl
  have hst : Step (91 :: (numC v ++ sufT m)) 6 (BS.mk 1 91).nats ((91 :: (numC v ++ sufT m)).drop (BS.mk 1 91).len) := by
    rw [hc]
    exact Step.sign rfl rfl (show (91 : Nat) ≠ 39 from by decide) (show (91 : Nat) ≠ 34 from by decide) (fun h => by cases h) (signOf_lb hcne)
  have e7 : (BS.mk 1 91).nats = [91] := by decide +kernel
  rw [e7] at hst
  have hst : Step (91 :: (numC v ++ sufT m)) 6 [91] (numC v ++ sufT m) := hst
  refine Toks.cons (by simp) (by decide) hst ?_
  have hsk2 : skipF 100000 (numC v ++ sufT m) = numC v ++ sufT m := by rw [hc]; exact skip_stay hwh hpre
  rw [hsk2]
  refine Toks.cons (by rw [hc]; simp) (by decide) (Step.number (v := v) ⟨rfl, hok, hlead, rfl, rfl⟩) (toks_tail len m hm)
end
end Go.Proofs.YtjolbidcficdhaaDoor
