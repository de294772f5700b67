/- The lexer's functions, as plain functions on lists of numbers. -/
import Derived.Test.YtjolbidcficdhaaDoorD
import Derived.Test.YtjolbidcficdhaaDoorOgT
set_option linter.all false
set_option maxRecDepth 100000
namespace Go.Proofs.YtjolbidcficdhaaDoor
open Go Go.Og
noncomputable section

/-! ### a reader in memory -/
def Lx (σ : H) (b : Nat) (s : BS) (i : Nat) (r : List Nat) : Prop := Atc σ b [.str s, .int .i64 (Int.ofNat i)] ∧ Rst s i r ∧ s.len ≤ 10000 ∧ Tidy σ
def mv (σ : H) (b : Nat) (s : BS) (j : Nat) : H := setF σ b (.cells [.str s, .int .i64 (Int.ofNat j)])
structure Mv (σ σ' : H) (b : Nat) (s : BS) (r' : List Nat) : Prop where
  at_ : ∃ i', Lx σ' b s i' r'
  fr : Fr (fun k => k = b) σ σ'
section
variable {σ σ' σ'' : H} {b i k : Nat} {s : BS} {r r' r'' : List Nat}
theorem Lx.h0 (h : Lx σ b s i r) (κ : V → Ans) : ldK [] σ b 0 κ = κ (.str s) := ldK_at h.1 rfl
theorem Lx.h1 (h : Lx σ b s i r) (κ : V → Ans) : ldK [] σ b (Nat.add 0 1) κ = κ (.int .i64 (Int.ofNat i)) := ldK_at h.1 rfl
theorem Lx.le (h : Lx σ b s i r) : i ≤ s.len := h.2.1.1
theorem Lx.big (h : Lx σ b s i r) : s.len ≤ 10000 := h.2.2.1
theorem Lx.tidy (h : Lx σ b s i r) : Tidy σ := h.2.2.2
theorem Lx.len (h : Lx σ b s i r) : i + r.length = s.len := h.2.1.len
theorem Lx.lt (h : Lx σ b s i r) : b < σ.next := h.1.lt h.tidy
theorem Lx.go (h : Lx σ b s i r) (hk : k ≤ r.length) : Lx (mv σ b s (i + k)) b s (i + k) (r.drop k) :=
  ⟨Atc_setF _, h.2.1.drop hk, h.big, (Fr.set h.tidy h.lt _).tidy⟩
theorem Lx.st (h : Lx σ b s i r) (hk : k ≤ r.length) (κ : H → Ans) : stK 1 b (Nat.add 0 1) (.int .i64 (addF .i64 (Int.ofNat i) (Int.ofNat k))) σ κ = κ (mv σ b s (i + k)) := by
  have := h.big; have := h.len
  rw [addF_nat (show i + k ≤ 9223372036854775807 by omega), stK_at h.1 rfl]
  rfl
theorem Mv.refl (h : Lx σ b s i r) : Mv σ σ b s r := ⟨⟨i, h⟩, Fr.refl h.tidy⟩
theorem Mv.step (h : Lx σ b s i r) (hk : k ≤ r.length) : Mv σ (mv σ b s (i + k)) b s (r.drop k) := ⟨⟨i + k, h.go hk⟩, Fr.set h.tidy h.lt _⟩
theorem Mv.trans (h : Mv σ σ' b s r') (k : Mv σ' σ'' b s r'') : Mv σ σ'' b s r'' := ⟨k.at_, h.fr.trans k.fr (fun _ _ h => h)⟩
end

/-! ### peek, letter, digit, ahead -/
def SpPeek (F : List V → H → Ans) : Prop := ∀ (σ : H) (b i k : Nat) (s : BS) (r : List Nat), Lx σ b s i r → k ≤ 10 → F [.ptr b 0, .int .i64 (Int.ofNat k)] σ = some (.int .u8 (Int.ofNat (r.getD k 0)), σ)
theorem peek_F (D : Den) (W : DrawFn) (N : Nat) : SpPeek (F32 [] D W N) := by
  intro σ b i k s r h hk
  have := h.big; have := h.le
  simp only [F32, J32_0, T32_0, rtCons_cons, rtPtr_ptr, rtInt_int, rtNil_nil, rtStr_str, h.h0, h.h1, addF_nat (show i + k ≤ 9223372036854775807 by omega), leF_nat]
  by_cases hlt : i + k < s.len
  · rw [decide_eq_false (by omega), condK_false, idxStrX_nat hlt, h.2.1.getD_lt hlt]
  · rw [decide_eq_true (by omega), condK_true, h.2.1.getD_ge hlt]

def letterB (c : Nat) : Bool := (leF (Int.ofNat 97) (Int.ofNat c) && leF (Int.ofNat c) (Int.ofNat 122)) || (leF (Int.ofNat 65) (Int.ofNat c) && leF (Int.ofNat c) (Int.ofNat 90))
def digitB (c : Nat) : Bool := leF (Int.ofNat 48) (Int.ofNat c) && leF (Int.ofNat c) (Int.ofNat 57)
def SpLetter (F : List V → H → Ans) : Prop := ∀ (σ : H) (c : Nat), F [.int .u8 (Int.ofNat c)] σ = some (.bool (letterB c), σ)
def SpDigit (F : List V → H → Ans) : Prop := ∀ (σ : H) (c : Nat), F [.int .u8 (Int.ofNat c)] σ = some (.bool (digitB c), σ)
theorem letter_F (D : Den) (W : DrawFn) (N : Nat) : SpLetter (F34 [] D W N) := by
  intro σ c
  simp only [F34, J34_0, T34_0, rtCons_cons, rtInt_int, rtNil_nil, joinB_, letterB]
  cases leF (Int.ofNat 97) (Int.ofNat c) <;> cases leF (Int.ofNat c) (Int.ofNat 122) <;> cases leF (Int.ofNat 65) (Int.ofNat c) <;> cases leF (Int.ofNat c) (Int.ofNat 90) <;> rfl
theorem digit_F (D : Den) (W : DrawFn) (N : Nat) : SpDigit (F36 [] D W N) := by
  intro σ c
  simp only [F36, J36_0, T36_0, rtCons_cons, rtInt_int, rtNil_nil, joinB_, digitB]
  cases leF (Int.ofNat 48) (Int.ofNat c) <;> cases leF (Int.ofNat c) (Int.ofNat 57) <;> rfl

def preB : List Nat → List Nat → Bool
  | [], _ => true
  | _ :: _, [] => false
  | a :: t, c :: r => Nat.beq a c && preB t r
theorem preB_eq : ∀ (t r : List Nat), preB t r = (decide (t.length ≤ r.length) && decide (r.take t.length = t))
  | [], r => by simp [preB]
  | a :: t, [] => by simp [preB]
  | a :: t, c :: r => by
    have e : decide ((a :: t).length ≤ (c :: r).length) = decide (t.length ≤ r.length) := by simp
    simp only [preB, preB_eq t r, e, List.length_cons, List.take_succ_cons, List.cons.injEq]
    by_cases hac : a = c
    · subst hac; simp [Nat.beq_refl]
    · have : Nat.beq a c = false := by rw [Bool.eq_false_iff]; exact fun h => hac (Nat.eq_of_beq_eq_true h)
      simp [this, Ne.symm hac]
def SpPre (F : List V → H → Ans) : Prop := ∀ (σ : H) (a p : BS), F [.str a, .str p] σ = some (.bool (preB p.nats a.nats), σ)
theorem lHP_F (D : Den) (W : DrawFn) (N : Nat) : SpPre (F58 [] D W N) := by
  intro σ a p
  simp only [F58, J58_0, T58_0, rtCons_cons, rtStr_str, rtNil_nil, joinB_, leF_nat, preB_eq, BS.length_nats]
  by_cases h : p.len ≤ a.len
  · rw [decide_eq_true h, condK_true, sliceStrX_to h, BS.beq_nats, BS.nats_sub h, List.drop_zero, Nat.sub_zero, Bool.true_and]
  · rw [decide_eq_false h, condK_false, Bool.false_and]
theorem sHP_F {D : Den} {W : DrawFn} {N : Nat} (hl : SpPre (D 58)) : SpPre (F48 [] D W N) := by
  intro σ a p
  simp only [F48, J48_0, T48_0, rtCons_cons, rtStr_str, rtNil_nil, hl σ a p, callK_some_, rtBool_bool]
def SpAhead (F : List V → H → Ans) : Prop := ∀ (σ : H) (b i : Nat) (s t : BS) (r : List Nat), Lx σ b s i r → F [.ptr b 0, .str t] σ = some (.bool (preB t.nats r), σ)
theorem ahead_F {D : Den} {W : DrawFn} {N : Nat} (hl : SpPre (D 48)) : SpAhead (F33 [] D W N) := by
  intro σ b i s t r h
  simp only [F33, J33_0, T33_0, rtCons_cons, rtPtr_ptr, rtStr_str, rtInt_int, rtNil_nil, h.h0, h.h1, sliceStrX_from h.le, hl σ (s.sub i s.len) t, callK_some_, rtBool_bool]
  rw [h.2.1.subAll, ofN_nats h.2.1.bd]

/-! ### skip -/
def whiteB (c : Nat) : Bool := ((eqF (Int.ofNat c) (Int.ofNat 32) || eqF (Int.ofNat c) (Int.ofNat 9)) || eqF (Int.ofNat c) (Int.ofNat 10)) || eqF (Int.ofNat c) (Int.ofNat 13)
def remR : List Nat → List Nat
  | [] => []
  | c :: r => match eqF (Int.ofNat c) (Int.ofNat 10) || preB [45, 45] (c :: r) with
    | true => c :: r
    | false => remR r
def remE (r : List Nat) : List Nat := match preB [45, 45] r with
  | true => r.drop 2
  | false => r
def skipF : Nat → List Nat → List Nat
  | 0, r => r
  | _ + 1, [] => []
  | n + 1, c :: r => match whiteB c with
    | true => skipF n r
    | false => match preB [45, 45] (c :: r) with
      | true => skipF n (remE (remR (r.drop 1)))
      | false => c :: r
def dash2 : BS := BS.mk 2 11565
theorem dash2_nats : dash2.nats = [45, 45] := by decide +kernel
theorem remR_le : ∀ r : List Nat, (remR r).length ≤ r.length
  | [] => Nat.le_refl _
  | c :: r => by
    unfold remR
    cases eqF (Int.ofNat c) (Int.ofNat 10) || preB [45, 45] (c :: r)
    · exact Nat.le_succ_of_le (remR_le r)
    · exact Nat.le_refl _
theorem remE_le (r : List Nat) : (remE r).length ≤ r.length := by
  unfold remE
  cases preB [45, 45] r
  · exact Nat.le_refl _
  · simp
theorem skipF_le : ∀ (n : Nat) (r : List Nat), (skipF n r).length ≤ r.length
  | 0, _ => Nat.le_refl _
  | _ + 1, [] => Nat.le_refl _
  | n + 1, c :: r => by
    show (match whiteB c with | true => _ | false => _ : List Nat).length ≤ _
    cases whiteB c
    · cases preB [45, 45] (c :: r)
      · exact Nat.le_refl _
      · have h1 := skipF_le n (remE (remR (r.drop 1)))
        have h2 := remE_le (remR (r.drop 1))
        have h3 := remR_le (r.drop 1)
        have h4 : (r.drop 1).length ≤ r.length := by simp
        simp only [List.length_cons] at *
        omega
    · exact Nat.le_succ_of_le (skipF_le n r)
theorem preB_len : ∀ {t r : List Nat}, preB t r = true → t.length ≤ r.length
  | t, r, h => by rw [preB_eq] at h; simp at h; exact h.1
section
variable {D : Den} {W : DrawFn} {N : Nat} (hP : SpPeek (D 32)) (hH : SpAhead (D 33))
include hP hH
theorem rem_L (R1 : Nat → Nat → H → Ans) : ∀ (r : List Nat) (n : Nat) (σ : H) (b i : Nat) (s : BS), r.length < n → Lx σ b s i r →
    ∃ σ', L18_3 [] D W N R1 n b 0 σ = J18_2 [] D W N R1 b 0 σ' ∧ Mv σ σ' b s (remR r)
  | r, 0, _, _, _, _, hn, _ => absurd hn (Nat.not_lt_zero _)
  | [], n + 1, σ, b, i, s, _, h => by
    refine ⟨σ, ?_, Mv.refl h⟩
    show T18_3 [] D W (J18_2 [] D W N R1) (L18_3 [] D W N R1 n) b 0 σ = _
    have hl := h.len
    simp only [T18_3, h.h1, h.h0, rtInt_int, rtStr_str, ltF_nat, joinB_]
    rw [decide_eq_false (by simp at hl; omega), condK_false, condK_false, condK_false]
  | c :: r, n + 1, σ, b, i, s, hn, h => by
    have hl := h.len
    have e : L18_3 [] D W N R1 (n + 1) b 0 σ = T18_3 [] D W (J18_2 [] D W N R1) (L18_3 [] D W N R1 n) b 0 σ := rfl
    rw [e]
    simp only [T18_3, h.h1, h.h0, rtInt_int, rtStr_str, ltF_nat, joinB_]
    rw [decide_eq_true (by simp at hl; omega), condK_true, hP σ b i 0 s _ h (by omega)]
    simp only [callK_some_, rtInt_int, List.getD_cons_zero]
    cases h10 : eqF (Int.ofNat c) (Int.ofNat 10)
    · have hh : D 33 [.ptr b 0, .str (BS.mk 2 11565)] σ = some (.bool (preB [45, 45] (c :: r)), σ) := by
        have := hH σ b i s dash2 _ h
        rwa [dash2_nats] at this
      simp only [Bool.not_false, condK_true, hh, callK_some_, rtBool_bool]
      cases hd : preB [45, 45] (c :: r)
      · simp only [Bool.not_false, condK_true, h.h1, rtInt_int]
        rw [h.st (k := 1) (by simp)]
        obtain ⟨σ', h1, h2⟩ := rem_L R1 r n (mv σ b s (i + 1)) b (i + 1) s (by simp at hn; omega) (h.go (k := 1) (by simp))
        refine ⟨σ', h1, ?_⟩
        have e2 : remR (c :: r) = remR r := by show (match eqF (Int.ofNat c) (Int.ofNat 10) || preB [45, 45] (c :: r) with | true => c :: r | false => remR r) = _; rw [h10, hd]; rfl
        rw [e2]
        exact (Mv.step h (k := 1) (by simp)).trans h2
      · simp only [Bool.not_true, condK_false]
        refine ⟨σ, rfl, ?_⟩
        have e2 : remR (c :: r) = c :: r := by unfold remR; rw [h10, hd]; rfl
        rw [e2]; exact Mv.refl h
    · simp only [Bool.not_true, condK_false]
      refine ⟨σ, rfl, ?_⟩
      have e2 : remR (c :: r) = c :: r := by unfold remR; rw [h10]; rfl
      rw [e2]; exact Mv.refl h
theorem remE_J (R1 : Nat → Nat → H → Ans) (r : List Nat) (σ : H) (b i : Nat) (s : BS) (h : Lx σ b s i r) :
    ∃ σ', J18_2 [] D W N R1 b 0 σ = R1 b 0 σ' ∧ Mv σ σ' b s (remE r) := by
  show ∃ σ', T18_2 [] D W R1 b 0 σ = R1 b 0 σ' ∧ _
  have hh : D 33 [.ptr b 0, .str (BS.mk 2 11565)] σ = some (.bool (preB [45, 45] r), σ) := by
    have := hH σ b i s dash2 _ h
    rwa [dash2_nats] at this
  simp only [T18_2, hh, callK_some_, rtBool_bool]
  cases hd : preB [45, 45] r
  · refine ⟨σ, rfl, ?_⟩
    have e2 : remE r = r := by unfold remE; rw [hd]
    rw [e2]; exact Mv.refl h
  · have hlen : 2 ≤ r.length := preB_len hd
    simp only [condK_true, h.h1, rtInt_int]
    rw [h.st (k := 2) hlen]
    refine ⟨_, rfl, ?_⟩
    have e2 : remE r = r.drop 2 := by unfold remE; rw [hd]
    rw [e2]; exact Mv.step h hlen
theorem skip_L (hN : 10000 < N) : ∀ (n : Nat) (r : List Nat) (σ : H) (b i : Nat) (s : BS), r.length < n → Lx σ b s i r →
    ∃ σ', L18_1 [] D W N n b 0 σ = some (.tup [], σ') ∧ Mv σ σ' b s (skipF n r)
  | 0, r, _, _, _, _, hn, _ => absurd hn (Nat.not_lt_zero _)
  | n + 1, [], σ, b, i, s, _, h => by
    refine ⟨σ, ?_, Mv.refl h⟩
    have hl := h.len
    show T18_1 [] D W (L18_3 [] D W N (L18_1 [] D W N n) N) (L18_1 [] D W N n) b 0 σ = _
    simp only [T18_1, h.h1, h.h0, rtInt_int, rtStr_str, ltF_nat, joinB_]
    rw [decide_eq_false (by simp at hl; omega), condK_false]
  | n + 1, c :: r, σ, b, i, s, hn, h => by
    have hl := h.len
    have hb := h.big
    have e : L18_1 [] D W N (n + 1) b 0 σ = T18_1 [] D W (L18_3 [] D W N (L18_1 [] D W N n) N) (L18_1 [] D W N n) b 0 σ := rfl
    rw [e]
    simp only [T18_1, h.h1, h.h0, rtInt_int, rtStr_str, ltF_nat, joinB_]
    rw [decide_eq_true (by simp at hl; omega), condK_true, hP σ b i 0 s _ h (by omega)]
    simp only [callK_some_, rtInt_int, List.getD_cons_zero]
    have go : whiteB c = true → ∃ σ', stK 1 b (Nat.add 0 1) (.int .i64 (addF .i64 (Int.ofNat i) (Int.ofNat 1))) σ (fun s19 => L18_1 [] D W N n b 0 s19) = some (.tup [], σ') ∧ Mv σ σ' b s (skipF (n + 1) (c :: r)) := fun hw => by
      rw [h.st (k := 1) (by simp)]
      obtain ⟨σ', h1, h2⟩ := skip_L hN n r (mv σ b s (i + 1)) b (i + 1) s (by simp at hn; omega) (h.go (k := 1) (by simp))
      refine ⟨σ', h1, ?_⟩
      have e2 : skipF (n + 1) (c :: r) = skipF n r := by show (match whiteB c with | true => _ | false => _) = _; rw [hw]
      rw [e2]
      exact (Mv.step h (k := 1) (by simp)).trans h2
    have no : whiteB c = false → ∃ σ', (callK (D 33 [.ptr b 0, .str (BS.mk 2 11565)] σ) fun u20 s21 => rtBool u20 fun x22 => condK x22 (ldK [] s21 b (Nat.add 0 1) fun u23 => rtInt .i64 u23 fun x24 => stK 1 b (Nat.add 0 1) (.int .i64 (addF .i64 x24 (Int.ofNat 2))) s21 fun s25 => L18_3 [] D W N (L18_1 [] D W N n) N b 0 s25) (some (.tup [], s21))) = some (.tup [], σ') ∧ Mv σ σ' b s (skipF (n + 1) (c :: r)) := fun hw => by
      have hh : D 33 [.ptr b 0, .str (BS.mk 2 11565)] σ = some (.bool (preB [45, 45] (c :: r)), σ) := by
        have := hH σ b i s dash2 _ h
        rwa [dash2_nats] at this
      simp only [hh, callK_some_, rtBool_bool]
      cases hd : preB [45, 45] (c :: r)
      · refine ⟨σ, rfl, ?_⟩
        have e2 : skipF (n + 1) (c :: r) = c :: r := by show (match whiteB c with | true => _ | false => _) = _; rw [hw, hd]
        rw [e2]; exact Mv.refl h
      · have hlen : 2 ≤ (c :: r).length := preB_len hd
        simp only [condK_true, h.h1, rtInt_int]
        rw [h.st (k := 2) hlen]
        have h2 := h.go (k := 2) hlen
        have ed : (c :: r).drop 2 = r.drop 1 := rfl
        rw [ed] at h2
        have l1 := remR_le (r.drop 1)
        have l2 : (r.drop 1).length = r.length - 1 := by simp
        obtain ⟨σ1, e1, m1⟩ := rem_L hP hH (L18_1 [] D W N n) (r.drop 1) N (mv σ b s (i + 2)) b (i + 2) s (by simp at hl; omega) h2
        obtain ⟨i1, x1⟩ := m1.at_
        obtain ⟨σ2, e3, m2⟩ := remE_J hP hH (L18_1 [] D W N n) (remR (r.drop 1)) σ1 b i1 s x1
        obtain ⟨i2, x2⟩ := m2.at_
        have l3 := remE_le (remR (r.drop 1))
        simp only [List.length_cons] at hn hlen
        obtain ⟨σ3, e4, m3⟩ := skip_L hN n (remE (remR (r.drop 1))) σ2 b i2 s (by omega) x2
        refine ⟨σ3, (e1.trans e3).trans e4, ?_⟩
        have e2 : skipF (n + 1) (c :: r) = skipF n (remE (remR (r.drop 1))) := by show (match whiteB c with | true => _ | false => _) = _; rw [hw, hd]
        rw [e2]
        have m0 := Mv.step h (k := 2) hlen
        rw [ed] at m0
        exact ((m0.trans m1).trans m2).trans m3
    cases h32 : eqF (Int.ofNat c) (Int.ofNat 32) <;> cases h9 : eqF (Int.ofNat c) (Int.ofNat 9) <;> cases h10 : eqF (Int.ofNat c) (Int.ofNat 10) <;> cases h13 : eqF (Int.ofNat c) (Int.ofNat 13) <;>
      first
      | (have hw : whiteB c = true := by simp only [whiteB, h32, h9, h10, h13, Bool.or_true, Bool.true_or, Bool.or_false, Bool.false_or]
         simp only [condK_true, condK_false, h.h1, rtInt_int]
         exact go hw)
      | (have hw : whiteB c = false := by simp only [whiteB, h32, h9, h10, h13, Bool.or_true, Bool.true_or, Bool.or_false, Bool.false_or]
         simp only [condK_true, condK_false, h.h1, rtInt_int]
         exact no hw)
end
def SpSkip (N : Nat) (F : List V → H → Ans) : Prop := ∀ (σ : H) (b i : Nat) (s : BS) (r : List Nat), Lx σ b s i r → ∃ σ', F [.ptr b 0] σ = some (.tup [], σ') ∧ Mv σ σ' b s (skipF N r)
theorem skip_F {D : Den} {W : DrawFn} {N : Nat} (hP : SpPeek (D 32)) (hH : SpAhead (D 33)) (hN : 10000 < N) : SpSkip N (F18 [] D W N) := by
  intro σ b i s r h
  have hl := h.len; have hb := h.big
  exact skip_L hP hH hN N r σ b i s (by omega) h
end
end Go.Proofs.YtjolbidcficdhaaDoor
