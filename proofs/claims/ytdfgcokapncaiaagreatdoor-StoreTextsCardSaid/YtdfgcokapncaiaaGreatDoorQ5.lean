/- What the last text leans on, part 6 of 6: merged out of smaller texts. No condition. -/
import Derived.Deep.Slices
import Derived.Carry
import Derived.Test.YtdfgcokapncaiaaGreatDoorQ4
set_option linter.all false
set_option maxRecDepth 100000
namespace Go.Proofs.YtdfgcokapncaiaaGreatDoor
open Go Go.Og
noncomputable section
def TW (d : Nat) : Den := Nat.rec (fun _ _ _ => none) (fun _ ih f => match lookF kn f with
  | some l => locF l (BD [] 100000 ih f)
  | none => BD [] 100000 ih f) d
theorem kn_right : ∀ p ∈ kn, ∀ e ∈ p.2, e.right 8 (DT [] 100000 60 p.1) = true := by
  unfold kn
  simp only [List.forall_mem_cons, List.not_mem_nil, false_implies, implies_true, and_true]
  exact ⟨eNew_right, eAw_right, ⟨eReg_right, eReg2_right⟩, eMake_right, ePrint_right, eMay_right, ⟨eF1_right, eF2_right⟩⟩
theorem TW_ok : ∀ (d : Nat) (f : FuncId), SoundFn Tryz.prog [] glob f (TW d f) := by
  intro d
  induction d with
  | zero => intro f C _ _ R σ w args xs v σ' h; cases h
  | succ d ih =>
    intro f
    show SoundFn Tryz.prog [] glob f (match lookF kn f with
      | some l => locF l (BD [] 100000 (TW d) f)
      | none => BD [] 100000 (TW d) f)
    split
    · rename_i l hl
      rw [lookF_eq] at hl
      exact locF_ok (BD_ok [] 100000 (TW d) ih f) (DT_ok [] 100000 60 f) globLt (kn_right _ (look_mem hl))
    · exact BD_ok [] 100000 (TW d) ih f
theorem DE5 (d : Nat) : TW (d + 1) 5 = locF [eNew] (F5 [] (TW d) (drawW [] (TW d)) 100000) := by kernel_rfl
theorem DE6 (d : Nat) : TW (d + 1) 6 = locF [eReg, eReg2] (F6 [] (TW d) (drawW [] (TW d)) 100000) := by kernel_rfl
theorem DE7 (d : Nat) : TW (d + 1) 7 = locF [eF1, eF2] (F7 [] (TW d) (drawW [] (TW d)) 100000) := by kernel_rfl
theorem DE9 (d : Nat) : TW (d + 1) 9 = F9 [] (TW d) (drawW [] (TW d)) 100000 := by kernel_rfl
theorem DE10 (d : Nat) : TW (d + 1) 10 = locF [eMay] (F10 [] (TW d) (drawW [] (TW d)) 100000) := by kernel_rfl
theorem DE14 (d : Nat) : TW (d + 1) 14 = F14 [] (TW d) (drawW [] (TW d)) 100000 := by kernel_rfl
theorem DE15 (d : Nat) : TW (d + 1) 15 = locF [eMake] (F15 [] (TW d) (drawW [] (TW d)) 100000) := by kernel_rfl
theorem DE16 (d : Nat) : TW (d + 1) 16 = locF [ePrint] (F16 [] (TW d) (drawW [] (TW d)) 100000) := by kernel_rfl
theorem DE24 (d : Nat) : TW (d + 1) 24 = F24 [] (TW d) (drawW [] (TW d)) 100000 := by kernel_rfl
theorem DE25 (d : Nat) : TW (d + 1) 25 = F25 [] (TW d) (drawW [] (TW d)) 100000 := by kernel_rfl
theorem DE40 (d : Nat) : TW (d + 1) 40 = F40 [] (TW d) (drawW [] (TW d)) 100000 := by kernel_rfl
theorem DE41 (d : Nat) : TW (d + 1) 41 = F41 [] (TW d) (drawW [] (TW d)) 100000 := by kernel_rfl
theorem DE42 (d : Nat) : TW (d + 1) 42 = F42 [] (TW d) (drawW [] (TW d)) 100000 := by kernel_rfl
theorem DE43 (d : Nat) : TW (d + 1) 43 = F43 [] (TW d) (drawW [] (TW d)) 100000 := by kernel_rfl
theorem DE44 (d : Nat) : TW (d + 1) 44 = F44 [] (TW d) (drawW [] (TW d)) 100000 := by kernel_rfl
theorem DE45 (d : Nat) : TW (d + 1) 45 = F45 [] (TW d) (drawW [] (TW d)) 100000 := by kernel_rfl
theorem DE46 (d : Nat) : TW (d + 1) 46 = F46 [] (TW d) (drawW [] (TW d)) 100000 := by kernel_rfl
theorem DE64 (d : Nat) : TW (d + 1) 64 = F64 [] (TW d) (drawW [] (TW d)) 100000 := by kernel_rfl
theorem DE65 (d : Nat) : TW (d + 1) 65 = F65 [] (TW d) (drawW [] (TW d)) 100000 := by kernel_rfl
theorem DE66 (d : Nat) : TW (d + 1) 66 = F66 [] (TW d) (drawW [] (TW d)) 100000 := by kernel_rfl
theorem DE67 (d : Nat) : TW (d + 1) 67 = F67 [] (TW d) (drawW [] (TW d)) 100000 := by kernel_rfl
theorem DE68 (d : Nat) : TW (d + 1) 68 = F68 [] (TW d) (drawW [] (TW d)) 100000 := by kernel_rfl
theorem DE69 (d : Nat) : TW (d + 1) 69 = F69 [] (TW d) (drawW [] (TW d)) 100000 := by kernel_rfl
theorem DE72 (d : Nat) : TW (d + 1) 72 = F72 [] (TW d) (drawW [] (TW d)) 100000 := by kernel_rfl
theorem DE74 (d : Nat) : TW (d + 1) 74 = F74 [] (TW d) (drawW [] (TW d)) 100000 := by kernel_rfl
theorem DE75 (d : Nat) : TW (d + 1) 75 = F75 [] (TW d) (drawW [] (TW d)) 100000 := by kernel_rfl
theorem DE76 (d : Nat) : TW (d + 1) 76 = F76 [] (TW d) (drawW [] (TW d)) 100000 := by kernel_rfl
theorem DE99 (d : Nat) : TW (d + 1) 99 = F99 [] (TW d) (drawW [] (TW d)) 100000 := by kernel_rfl
theorem DE100 (d : Nat) : TW (d + 1) 100 = F100 [] (TW d) (drawW [] (TW d)) 100000 := by kernel_rfl
theorem DE101 (d : Nat) : TW (d + 1) 101 = F101 [] (TW d) (drawW [] (TW d)) 100000 := by kernel_rfl
theorem DE103 (d : Nat) : TW (d + 1) 103 = F103 [] (TW d) (drawW [] (TW d)) 100000 := by kernel_rfl
theorem DE104 (d : Nat) : TW (d + 1) 104 = F104 [] (TW d) (drawW [] (TW d)) 100000 := by kernel_rfl
theorem DE126 (d : Nat) : TW (d + 1) 126 = F126 [] (TW d) (drawW [] (TW d)) 100000 := by kernel_rfl
theorem DE127 (d : Nat) : TW (d + 1) 127 = F127 [] (TW d) (drawW [] (TW d)) 100000 := by kernel_rfl
theorem DE130 (d : Nat) : TW (d + 1) 130 = F130 [] (TW d) (drawW [] (TW d)) 100000 := by kernel_rfl
theorem DE132 (d : Nat) : TW (d + 1) 132 = F132 [] (TW d) (drawW [] (TW d)) 100000 := by kernel_rfl
theorem DE153 (d : Nat) : TW (d + 1) 153 = F153 [] (TW d) (drawW [] (TW d)) 100000 := by kernel_rfl
theorem DE158 (d : Nat) : TW (d + 1) 158 = F158 [] (TW d) (drawW [] (TW d)) 100000 := by kernel_rfl
theorem DE4 (d : Nat) : TW (d + 1) 4 = locF [eAw] (BD [] 100000 (TW d) 4) := by kernel_rfl
end
end Go.Proofs.YtdfgcokapncaiaaGreatDoor

set_option linter.all false
set_option maxRecDepth 100000
namespace Go.Proofs.YtdfgcokapncaiaaGreatDoor
open Go Go.Og
noncomputable section

/-! ### a reader in memory -/
def Lx (σ : H) (b : Nat) (s : BS) (i : Nat) (r : List Nat) : Prop := Atc σ b [.str s, .int .i64 (Int.ofNat i)] ∧ Rst s i r ∧ s.len ≤ 10000 ∧ Tidy σ
def mv (σ : H) (b : Nat) (s : BS) (j : Nat) : H := setF σ b (.cells [.str s, .int .i64 (Int.ofNat j)])
structure Mv (σ σ' : H) (b : Nat) (s : BS) (r' : List Nat) : Prop where
  at_ : ∃ i', Lx σ' b s i' r'
  fr : Fr (fun k => k = b) σ σ'
section
variable {σ σ' σ'' : H} {b i k : Nat} {s : BS} {r r' r'' : List Nat}
theorem Lx.h0 (h : Lx σ b s i r) (κ : V → Ans) : ldK [] σ b 0 κ = κ (.str s) := ldK_at h.1 rfl
theorem Lx.h1 (h : Lx σ b s i r) (κ : V → Ans) : ldK [] σ b (Nat.add 0 1) κ = κ (.int .i64 (Int.ofNat i)) := ldK_at h.1 rfl
theorem Lx.le (h : Lx σ b s i r) : i ≤ s.len := h.2.1.1
theorem Lx.big (h : Lx σ b s i r) : s.len ≤ 10000 := h.2.2.1
theorem Lx.tidy (h : Lx σ b s i r) : Tidy σ := h.2.2.2
theorem Lx.len (h : Lx σ b s i r) : i + r.length = s.len := h.2.1.len
theorem Lx.lt (h : Lx σ b s i r) : b < σ.next := h.1.lt h.tidy
theorem Lx.go (h : Lx σ b s i r) (hk : k ≤ r.length) : Lx (mv σ b s (i + k)) b s (i + k) (r.drop k) :=
  ⟨Atc_setF _, h.2.1.drop hk, h.big, (Fr.set h.tidy h.lt _).tidy⟩
theorem Lx.st (h : Lx σ b s i r) (hk : k ≤ r.length) (κ : H → Ans) : stK 1 b (Nat.add 0 1) (.int .i64 (addF .i64 (Int.ofNat i) (Int.ofNat k))) σ κ = κ (mv σ b s (i + k)) := by
  have := h.big; have := h.len
  rw [addF_nat (show i + k ≤ 9223372036854775807 by omega), stK_at h.1 rfl]
  rfl
theorem Mv.refl (h : Lx σ b s i r) : Mv σ σ b s r := ⟨⟨i, h⟩, Fr.refl h.tidy⟩
theorem Mv.step (h : Lx σ b s i r) (hk : k ≤ r.length) : Mv σ (mv σ b s (i + k)) b s (r.drop k) := ⟨⟨i + k, h.go hk⟩, Fr.set h.tidy h.lt _⟩
theorem Mv.trans (h : Mv σ σ' b s r') (k : Mv σ' σ'' b s r'') : Mv σ σ'' b s r'' := ⟨k.at_, h.fr.trans k.fr (fun _ _ h => h)⟩
end

/-! ### peek, letter, digit, ahead -/
def SpPeek (F : List V → H → Ans) : Prop := ∀ (σ : H) (b i k : Nat) (s : BS) (r : List Nat), Lx σ b s i r → k ≤ 10 → F [.ptr b 0, .int .i64 (Int.ofNat k)] σ = some (.int .u8 (Int.ofNat (r.getD k 0)), σ)
theorem peek_F (D : Den) (W : DrawFn) (N : Nat) : SpPeek (F64 [] D W N) := by
  intro σ b i k s r h hk
  have := h.big; have := h.le
  simp only [F64, J64_0, T64_0, rtCons_cons, rtPtr_ptr, rtInt_int, rtNil_nil, rtStr_str, h.h0, h.h1, addF_nat (show i + k ≤ 9223372036854775807 by omega), leF_nat]
  by_cases hlt : i + k < s.len
  · rw [decide_eq_false (by omega), condK_false, idxStrX_nat hlt, h.2.1.getD_lt hlt]
  · rw [decide_eq_true (by omega), condK_true, h.2.1.getD_ge hlt]

def letterB (c : Nat) : Bool := (leF (Int.ofNat 97) (Int.ofNat c) && leF (Int.ofNat c) (Int.ofNat 122)) || (leF (Int.ofNat 65) (Int.ofNat c) && leF (Int.ofNat c) (Int.ofNat 90))
def digitB (c : Nat) : Bool := leF (Int.ofNat 48) (Int.ofNat c) && leF (Int.ofNat c) (Int.ofNat 57)
def SpLetter (F : List V → H → Ans) : Prop := ∀ (σ : H) (c : Nat), F [.int .u8 (Int.ofNat c)] σ = some (.bool (letterB c), σ)
def SpDigit (F : List V → H → Ans) : Prop := ∀ (σ : H) (c : Nat), F [.int .u8 (Int.ofNat c)] σ = some (.bool (digitB c), σ)
theorem letter_F (D : Den) (W : DrawFn) (N : Nat) : SpLetter (F66 [] D W N) := by
  intro σ c
  simp only [F66, J66_0, T66_0, rtCons_cons, rtInt_int, rtNil_nil, joinB_, letterB]
  cases leF (Int.ofNat 97) (Int.ofNat c) <;> cases leF (Int.ofNat c) (Int.ofNat 122) <;> cases leF (Int.ofNat 65) (Int.ofNat c) <;> cases leF (Int.ofNat c) (Int.ofNat 90) <;> rfl
theorem digit_F (D : Den) (W : DrawFn) (N : Nat) : SpDigit (F68 [] D W N) := by
  intro σ c
  simp only [F68, J68_0, T68_0, rtCons_cons, rtInt_int, rtNil_nil, joinB_, digitB]
  cases leF (Int.ofNat 48) (Int.ofNat c) <;> cases leF (Int.ofNat c) (Int.ofNat 57) <;> rfl

def preB : List Nat → List Nat → Bool
  | [], _ => true
  | _ :: _, [] => false
  | a :: t, c :: r => Nat.beq a c && preB t r
theorem preB_eq : ∀ (t r : List Nat), preB t r = (decide (t.length ≤ r.length) && decide (r.take t.length = t))
  | [], r => by simp [preB]
  | a :: t, [] => by simp [preB]
  | a :: t, c :: r => by
    have e : decide ((a :: t).length ≤ (c :: r).length) = decide (t.length ≤ r.length) := by simp
    simp only [preB, preB_eq t r, e, List.length_cons, List.take_succ_cons, List.cons.injEq]
    by_cases hac : a = c
    · subst hac; simp [Nat.beq_refl]
    · have : Nat.beq a c = false := by rw [Bool.eq_false_iff]; exact fun h => hac (Nat.eq_of_beq_eq_true h)
      simp [this, Ne.symm hac]
def SpPre (F : List V → H → Ans) : Prop := ∀ (σ : H) (a p : BS), F [.str a, .str p] σ = some (.bool (preB p.nats a.nats), σ)
theorem lHP_F (D : Den) (W : DrawFn) (N : Nat) : SpPre (F126 [] D W N) := by
  intro σ a p
  simp only [F126, J126_0, T126_0, rtCons_cons, rtStr_str, rtNil_nil, joinB_, leF_nat, preB_eq, BS.length_nats]
  by_cases h : p.len ≤ a.len
  · rw [decide_eq_true h, condK_true, sliceStrX_to h, BS.beq_nats, BS.nats_sub h, List.drop_zero, Nat.sub_zero, Bool.true_and]
  · rw [decide_eq_false h, condK_false, Bool.false_and]
theorem sHP_F {D : Den} {W : DrawFn} {N : Nat} (hl : SpPre (D 126)) : SpPre (F99 [] D W N) := by
  intro σ a p
  simp only [F99, J99_0, T99_0, rtCons_cons, rtStr_str, rtNil_nil, hl σ a p, callK_some_, rtBool_bool]
def SpAhead (F : List V → H → Ans) : Prop := ∀ (σ : H) (b i : Nat) (s t : BS) (r : List Nat), Lx σ b s i r → F [.ptr b 0, .str t] σ = some (.bool (preB t.nats r), σ)
theorem ahead_F {D : Den} {W : DrawFn} {N : Nat} (hl : SpPre (D 99)) : SpAhead (F65 [] D W N) := by
  intro σ b i s t r h
  simp only [F65, J65_0, T65_0, rtCons_cons, rtPtr_ptr, rtStr_str, rtInt_int, rtNil_nil, h.h0, h.h1, sliceStrX_from h.le, hl σ (s.sub i s.len) t, callK_some_, rtBool_bool]
  rw [h.2.1.subAll, ofN_nats h.2.1.bd]

/-! ### skip -/
def whiteB (c : Nat) : Bool := ((eqF (Int.ofNat c) (Int.ofNat 32) || eqF (Int.ofNat c) (Int.ofNat 9)) || eqF (Int.ofNat c) (Int.ofNat 10)) || eqF (Int.ofNat c) (Int.ofNat 13)
def remR : List Nat → List Nat
  | [] => []
  | c :: r => match eqF (Int.ofNat c) (Int.ofNat 10) || preB [45, 45] (c :: r) with
    | true => c :: r
    | false => remR r
def remE (r : List Nat) : List Nat := match preB [45, 45] r with
  | true => r.drop 2
  | false => r
def skipF : Nat → List Nat → List Nat
  | 0, r => r
  | _ + 1, [] => []
  | n + 1, c :: r => match whiteB c with
    | true => skipF n r
    | false => match preB [45, 45] (c :: r) with
      | true => skipF n (remE (remR (r.drop 1)))
      | false => c :: r
def dash2 : BS := BS.mk 2 11565
theorem dash2_nats : dash2.nats = [45, 45] := by decide +kernel
theorem remR_le : ∀ r : List Nat, (remR r).length ≤ r.length
  | [] => Nat.le_refl _
  | c :: r => by
    unfold remR
    cases eqF (Int.ofNat c) (Int.ofNat 10) || preB [45, 45] (c :: r)
    · exact Nat.le_succ_of_le (remR_le r)
    · exact Nat.le_refl _
theorem remE_le (r : List Nat) : (remE r).length ≤ r.length := by
  unfold remE
  cases preB [45, 45] r
  · exact Nat.le_refl _
  · simp
theorem skipF_le : ∀ (n : Nat) (r : List Nat), (skipF n r).length ≤ r.length
  | 0, _ => Nat.le_refl _
  | _ + 1, [] => Nat.le_refl _
  | n + 1, c :: r => by
    show (match whiteB c with | true => _ | false => _ : List Nat).length ≤ _
    cases whiteB c
    · cases preB [45, 45] (c :: r)
      · exact Nat.le_refl _
      · have h1 := skipF_le n (remE (remR (r.drop 1)))
        have h2 := remE_le (remR (r.drop 1))
        have h3 := remR_le (r.drop 1)
        have h4 : (r.drop 1).length ≤ r.length := by simp
        simp only [List.length_cons] at *
        omega
    · exact Nat.le_succ_of_le (skipF_le n r)
theorem preB_len : ∀ {t r : List Nat}, preB t r = true → t.length ≤ r.length
  | t, r, h => by rw [preB_eq] at h; simp at h; exact h.1
section
variable {D : Den} {W : DrawFn} {N : Nat} (hP : SpPeek (D 64)) (hH : SpAhead (D 65))
include hP hH
theorem rem_L (R1 : Nat → Nat → H → Ans) : ∀ (r : List Nat) (n : Nat) (σ : H) (b i : Nat) (s : BS), r.length < n → Lx σ b s i r →
    ∃ σ', L40_3 [] D W N R1 n b 0 σ = J40_2 [] D W N R1 b 0 σ' ∧ Mv σ σ' b s (remR r)
  | r, 0, _, _, _, _, hn, _ => absurd hn (Nat.not_lt_zero _)
  | [], n + 1, σ, b, i, s, _, h => by
    refine ⟨σ, ?_, Mv.refl h⟩
    show T40_3 [] D W (J40_2 [] D W N R1) (L40_3 [] D W N R1 n) b 0 σ = _
    have hl := h.len
    simp only [T40_3, h.h1, h.h0, rtInt_int, rtStr_str, ltF_nat, joinB_]
    rw [decide_eq_false (by simp at hl; omega), condK_false, condK_false, condK_false]
  | c :: r, n + 1, σ, b, i, s, hn, h => by
    have hl := h.len
    have e : L40_3 [] D W N R1 (n + 1) b 0 σ = T40_3 [] D W (J40_2 [] D W N R1) (L40_3 [] D W N R1 n) b 0 σ := rfl
    rw [e]
    simp only [T40_3, h.h1, h.h0, rtInt_int, rtStr_str, ltF_nat, joinB_]
    rw [decide_eq_true (by simp at hl; omega), condK_true, hP σ b i 0 s _ h (by omega)]
    simp only [callK_some_, rtInt_int, List.getD_cons_zero]
    cases h10 : eqF (Int.ofNat c) (Int.ofNat 10)
    · have hh : D 65 [.ptr b 0, .str (BS.mk 2 11565)] σ = some (.bool (preB [45, 45] (c :: r)), σ) := by
        have := hH σ b i s dash2 _ h
        rwa [dash2_nats] at this
      simp only [Bool.not_false, condK_true, hh, callK_some_, rtBool_bool]
      cases hd : preB [45, 45] (c :: r)
      · simp only [Bool.not_false, condK_true, h.h1, rtInt_int]
        rw [h.st (k := 1) (by simp)]
        obtain ⟨σ', h1, h2⟩ := rem_L R1 r n (mv σ b s (i + 1)) b (i + 1) s (by simp at hn; omega) (h.go (k := 1) (by simp))
        refine ⟨σ', h1, ?_⟩
        have e2 : remR (c :: r) = remR r := by show (match eqF (Int.ofNat c) (Int.ofNat 10) || preB [45, 45] (c :: r) with | true => c :: r | false => remR r) = _; rw [h10, hd]; rfl
        rw [e2]
        exact (Mv.step h (k := 1) (by simp)).trans h2
      · simp only [Bool.not_true, condK_false]
        refine ⟨σ, rfl, ?_⟩
        have e2 : remR (c :: r) = c :: r := by unfold remR; rw [h10, hd]; rfl
        rw [e2]; exact Mv.refl h
    · simp only [Bool.not_true, condK_false]
      refine ⟨σ, rfl, ?_⟩
      have e2 : remR (c :: r) = c :: r := by unfold remR; rw [h10]; rfl
      rw [e2]; exact Mv.refl h
theorem remE_J (R1 : Nat → Nat → H → Ans) (r : List Nat) (σ : H) (b i : Nat) (s : BS) (h : Lx σ b s i r) :
    ∃ σ', J40_2 [] D W N R1 b 0 σ = R1 b 0 σ' ∧ Mv σ σ' b s (remE r) := by
  show ∃ σ', T40_2 [] D W R1 b 0 σ = R1 b 0 σ' ∧ _
  have hh : D 65 [.ptr b 0, .str (BS.mk 2 11565)] σ = some (.bool (preB [45, 45] r), σ) := by
    have := hH σ b i s dash2 _ h
    rwa [dash2_nats] at this
  simp only [T40_2, hh, callK_some_, rtBool_bool]
  cases hd : preB [45, 45] r
  · refine ⟨σ, rfl, ?_⟩
    have e2 : remE r = r := by unfold remE; rw [hd]
    rw [e2]; exact Mv.refl h
  · have hlen : 2 ≤ r.length := preB_len hd
    simp only [condK_true, h.h1, rtInt_int]
    rw [h.st (k := 2) hlen]
    refine ⟨_, rfl, ?_⟩
    have e2 : remE r = r.drop 2 := by unfold remE; rw [hd]
    rw [e2]; exact Mv.step h hlen
theorem skip_L (hN : 10000 < N) : ∀ (n : Nat) (r : List Nat) (σ : H) (b i : Nat) (s : BS), r.length < n → Lx σ b s i r →
    ∃ σ', L40_1 [] D W N n b 0 σ = some (.tup [], σ') ∧ Mv σ σ' b s (skipF n r)
  | 0, r, _, _, _, _, hn, _ => absurd hn (Nat.not_lt_zero _)
  | n + 1, [], σ, b, i, s, _, h => by
    refine ⟨σ, ?_, Mv.refl h⟩
    have hl := h.len
    show T40_1 [] D W (L40_3 [] D W N (L40_1 [] D W N n) N) (L40_1 [] D W N n) b 0 σ = _
    simp only [T40_1, h.h1, h.h0, rtInt_int, rtStr_str, ltF_nat, joinB_]
    rw [decide_eq_false (by simp at hl; omega), condK_false]
  | n + 1, c :: r, σ, b, i, s, hn, h => by
    have hl := h.len
    have hb := h.big
    have e : L40_1 [] D W N (n + 1) b 0 σ = T40_1 [] D W (L40_3 [] D W N (L40_1 [] D W N n) N) (L40_1 [] D W N n) b 0 σ := rfl
    rw [e]
    simp only [T40_1, h.h1, h.h0, rtInt_int, rtStr_str, ltF_nat, joinB_]
    rw [decide_eq_true (by simp at hl; omega), condK_true, hP σ b i 0 s _ h (by omega)]
    simp only [callK_some_, rtInt_int, List.getD_cons_zero]
    have go : whiteB c = true → ∃ σ', stK 1 b (Nat.add 0 1) (.int .i64 (addF .i64 (Int.ofNat i) (Int.ofNat 1))) σ (fun s19 => L40_1 [] D W N n b 0 s19) = some (.tup [], σ') ∧ Mv σ σ' b s (skipF (n + 1) (c :: r)) := fun hw => by
      rw [h.st (k := 1) (by simp)]
      obtain ⟨σ', h1, h2⟩ := skip_L hN n r (mv σ b s (i + 1)) b (i + 1) s (by simp at hn; omega) (h.go (k := 1) (by simp))
      refine ⟨σ', h1, ?_⟩
      have e2 : skipF (n + 1) (c :: r) = skipF n r := by show (match whiteB c with | true => _ | false => _) = _; rw [hw]
      rw [e2]
      exact (Mv.step h (k := 1) (by simp)).trans h2
    have no : whiteB c = false → ∃ σ', (callK (D 65 [.ptr b 0, .str (BS.mk 2 11565)] σ) fun u20 s21 => rtBool u20 fun x22 => condK x22 (ldK [] s21 b (Nat.add 0 1) fun u23 => rtInt .i64 u23 fun x24 => stK 1 b (Nat.add 0 1) (.int .i64 (addF .i64 x24 (Int.ofNat 2))) s21 fun s25 => L40_3 [] D W N (L40_1 [] D W N n) N b 0 s25) (some (.tup [], s21))) = some (.tup [], σ') ∧ Mv σ σ' b s (skipF (n + 1) (c :: r)) := fun hw => by
      have hh : D 65 [.ptr b 0, .str (BS.mk 2 11565)] σ = some (.bool (preB [45, 45] (c :: r)), σ) := by
        have := hH σ b i s dash2 _ h
        rwa [dash2_nats] at this
      simp only [hh, callK_some_, rtBool_bool]
      cases hd : preB [45, 45] (c :: r)
      · refine ⟨σ, rfl, ?_⟩
        have e2 : skipF (n + 1) (c :: r) = c :: r := by show (match whiteB c with | true => _ | false => _) = _; rw [hw, hd]
        rw [e2]; exact Mv.refl h
      · have hlen : 2 ≤ (c :: r).length := preB_len hd
        simp only [condK_true, h.h1, rtInt_int]
        rw [h.st (k := 2) hlen]
        have h2 := h.go (k := 2) hlen
        have ed : (c :: r).drop 2 = r.drop 1 := rfl
        rw [ed] at h2
        have l1 := remR_le (r.drop 1)
        have l2 : (r.drop 1).length = r.length - 1 := by simp
        obtain ⟨σ1, e1, m1⟩ := rem_L hP hH (L40_1 [] D W N n) (r.drop 1) N (mv σ b s (i + 2)) b (i + 2) s (by simp at hl; omega) h2
        obtain ⟨i1, x1⟩ := m1.at_
        obtain ⟨σ2, e3, m2⟩ := remE_J hP hH (L40_1 [] D W N n) (remR (r.drop 1)) σ1 b i1 s x1
        obtain ⟨i2, x2⟩ := m2.at_
        have l3 := remE_le (remR (r.drop 1))
        simp only [List.length_cons] at hn hlen
        obtain ⟨σ3, e4, m3⟩ := skip_L hN n (remE (remR (r.drop 1))) σ2 b i2 s (by omega) x2
        refine ⟨σ3, (e1.trans e3).trans e4, ?_⟩
        have e2 : skipF (n + 1) (c :: r) = skipF n (remE (remR (r.drop 1))) := by show (match whiteB c with | true => _ | false => _) = _; rw [hw, hd]
        rw [e2]
        have m0 := Mv.step h (k := 2) hlen
        rw [ed] at m0
        exact ((m0.trans m1).trans m2).trans m3
    cases h32 : eqF (Int.ofNat c) (Int.ofNat 32) <;> cases h9 : eqF (Int.ofNat c) (Int.ofNat 9) <;> cases h10 : eqF (Int.ofNat c) (Int.ofNat 10) <;> cases h13 : eqF (Int.ofNat c) (Int.ofNat 13) <;>
      first
      | (have hw : whiteB c = true := by simp only [whiteB, h32, h9, h10, h13, Bool.or_true, Bool.true_or, Bool.or_false, Bool.false_or]
         simp only [condK_true, condK_false, h.h1, rtInt_int]
         exact go hw)
      | (have hw : whiteB c = false := by simp only [whiteB, h32, h9, h10, h13, Bool.or_true, Bool.true_or, Bool.or_false, Bool.false_or]
         simp only [condK_true, condK_false, h.h1, rtInt_int]
         exact no hw)
end
def SpSkip (N : Nat) (F : List V → H → Ans) : Prop := ∀ (σ : H) (b i : Nat) (s : BS) (r : List Nat), Lx σ b s i r → ∃ σ', F [.ptr b 0] σ = some (.tup [], σ') ∧ Mv σ σ' b s (skipF N r)
theorem skip_F {D : Den} {W : DrawFn} {N : Nat} (hP : SpPeek (D 64)) (hH : SpAhead (D 65)) (hN : 10000 < N) : SpSkip N (F40 [] D W N) := by
  intro σ b i s r h
  have hl := h.len; have hb := h.big
  exact skip_L hP hH hN N r σ b i s (by omega) h
end
end Go.Proofs.YtdfgcokapncaiaaGreatDoor
set_option linter.all false
set_option maxRecDepth 100000
namespace Go.Proofs.YtdfgcokapncaiaaGreatDoor
open Go Go.Og
noncomputable section

/-! ### names -/
def nameC (c : Nat) (r : List Nat) : Bool := letterB c || digitB c || (eqF (Int.ofNat c) (Int.ofNat 45) && not (eqF (Int.ofNat (r.getD 0 0)) (Int.ofNat 45)))
def nameLen : List Nat → Nat
  | [] => 0
  | c :: r => match nameC c r with
    | true => Nat.succ (nameLen r)
    | false => 0
theorem nameLen_le : ∀ r : List Nat, nameLen r ≤ r.length
  | [] => Nat.le_refl _
  | c :: r => by
    unfold nameLen
    cases nameC c r
    · exact Nat.zero_le _
    · exact Nat.succ_le_succ (nameLen_le r)
theorem name_L {D : Den} {W : DrawFn} {N : Nat} (hP : SpPeek (D 64)) (hLt : SpLetter (D 66)) (hDg : SpDigit (D 68)) (v4 : Int) : ∀ (r : List Nat) (n : Nat) (σ : H) (b i : Nat) (s : BS), r.length < n → Lx σ b s i r →
    ∃ σ', L67_2 [] D W N n b 0 v4 (Int.ofNat (r.getD 0 0)) σ = J67_1 [] D W N b 0 v4 σ' ∧ Lx σ' b s (i + nameLen r) (r.drop (nameLen r)) ∧ Mv σ σ' b s (r.drop (nameLen r))
  | r, 0, _, _, _, _, hn, _ => absurd hn (Nat.not_lt_zero _)
  | [], n + 1, σ, b, i, s, _, h => by
    refine ⟨σ, ?_, h, Mv.refl h⟩
    show T67_2 [] D W (J67_1 [] D W N) (L67_2 [] D W N n) b 0 v4 (Int.ofNat 0) σ = _
    simp only [T67_2, hLt σ 0, hDg σ 0, callK_some_, rtBool_bool, joinB_]
    rfl
  | c :: r, n + 1, σ, b, i, s, hn, h => by
    have e : L67_2 [] D W N (n + 1) b 0 v4 (Int.ofNat ((c :: r).getD 0 0)) σ = T67_2 [] D W (J67_1 [] D W N) (L67_2 [] D W N n) b 0 v4 (Int.ofNat c) σ := rfl
    rw [e]
    have hp : D 64 [.ptr b 0, .int .i64 (Int.ofNat 1)] σ = some (.int .u8 (Int.ofNat (r.getD 0 0)), σ) := hP σ b i 1 s (c :: r) h (by omega)
    have h2 := h.go (k := 1) (by simp)
    have hp2 : D 64 [.ptr b 0, .int .i64 (Int.ofNat 0)] (mv σ b s (i + 1)) = some (.int .u8 (Int.ofNat (r.getD 0 0)), mv σ b s (i + 1)) := hP _ b (i + 1) 0 s r h2 (by omega)
    have yes : nameC c r = true → ∃ σ', stK 1 b (Nat.add 0 1) (.int .i64 (addF .i64 (Int.ofNat i) (Int.ofNat 1))) σ (fun s12 => callK (D 64 [.ptr b 0, .int .i64 (Int.ofNat 0)] s12) fun u13 s14 => rtInt .u8 u13 fun x15 => L67_2 [] D W N n b 0 v4 x15 s14) = J67_1 [] D W N b 0 v4 σ' ∧ Lx σ' b s (i + nameLen (c :: r)) ((c :: r).drop (nameLen (c :: r))) ∧ Mv σ σ' b s ((c :: r).drop (nameLen (c :: r))) := fun hc => by
      rw [h.st (k := 1) (by simp)]
      simp only [hp2, callK_some_, rtInt_int]
      obtain ⟨σ', g1, g2, g3⟩ := name_L hP hLt hDg v4 r n (mv σ b s (i + 1)) b (i + 1) s (by simp at hn; omega) h2
      have e2 : nameLen (c :: r) = Nat.succ (nameLen r) := by show (match nameC c r with | true => _ | false => _) = _; rw [hc]
      refine ⟨σ', g1, ?_, ?_⟩
      · rw [e2]
        have : i + (nameLen r).succ = i + 1 + nameLen r := by omega
        rw [this]; exact g2
      · rw [e2]; exact (Mv.step h (k := 1) (by simp)).trans g3
    have no : nameC c r = false → ∃ σ', J67_1 [] D W N b 0 v4 σ = J67_1 [] D W N b 0 v4 σ' ∧ Lx σ' b s (i + nameLen (c :: r)) ((c :: r).drop (nameLen (c :: r))) ∧ Mv σ σ' b s ((c :: r).drop (nameLen (c :: r))) := fun hc => by
      have e2 : nameLen (c :: r) = 0 := by show (match nameC c r with | true => _ | false => _) = _; rw [hc]
      rw [e2]
      exact ⟨σ, rfl, h, Mv.refl h⟩
    simp only [T67_2, hLt σ c, hDg σ c, callK_some_, rtBool_bool, joinB_, hp, rtInt_int, h.h1]
    cases hl : letterB c <;> cases hd : digitB c <;> cases h45 : eqF (Int.ofNat c) (Int.ofNat 45) <;> cases h46 : eqF (Int.ofNat (r.getD 0 0)) (Int.ofNat 45) <;>
      first
      | (have hw : nameC c r = true := by simp only [nameC, hl, hd, h45, h46, Bool.or_true, Bool.true_or, Bool.or_false, Bool.false_or, Bool.and_true, Bool.and_false, Bool.true_and, Bool.false_and, Bool.not_true, Bool.not_false]
         simp only [condK_true, condK_false, Bool.not_false, Bool.not_true, h.h1, rtInt_int]
         exact yes hw)
      | (have hw : nameC c r = false := by simp only [nameC, hl, hd, h45, h46, Bool.or_true, Bool.true_or, Bool.or_false, Bool.false_or, Bool.and_true, Bool.and_false, Bool.true_and, Bool.false_and, Bool.not_true, Bool.not_false]
         simp only [condK_true, condK_false, Bool.not_false, Bool.not_true]
         exact no hw)

def wordB (t : BS) : Bool := BS.beq t (BS.mk 11 100710650190388740279911748) || (BS.beq t (BS.mk 8 6073459554577832005) || (BS.beq t (BS.mk 8 6073459554577829193) || (BS.beq t (BS.mk 9 1241215773001651606849) || (BS.beq t (BS.mk 4 1397178708) || (BS.beq t (BS.mk 5 336236856642) || (BS.beq t (BS.mk 3 4476485) || (BS.beq t (BS.mk 7 22026814072246082) || (BS.beq t (BS.mk 7 23157120498421321) || (BS.beq t (BS.mk 10 322399817400452109389381) || (BS.beq t (BS.mk 4 1280070990) || (BS.beq t (BS.mk 5 361940403023) || (BS.beq t (BS.mk 6 78401563153491) || (BS.beq t (BS.mk 10 488440487847103610377301) || (BS.beq t (BS.mk 8 4990918871747741011) || (BS.beq t (BS.mk 3 5522771) || (BS.beq t (BS.mk 6 76155295057987) || (BS.beq t (BS.mk 2 17999) || (BS.beq t (BS.mk 8 5494759122808361039) || (BS.beq t (BS.mk 7 23727827094750532) || (BS.beq t (BS.mk 4 1163544915) || (BS.beq t (BS.mk 3 5130573) || (BS.beq t (BS.mk 3 5783885) || (BS.beq t (BS.mk 4 1163219540) || (BS.beq t (BS.mk 5 297750249798)))))))))))))))))))))))))
def SpWord (F : List V → H → Ans) : Prop := ∀ (σ : H) (t : BS), F [.str t] σ = some (.bool (wordB t), σ)
theorem word_F (D : Den) (W : DrawFn) (N : Nat) : SpWord (F100 [] D W N) := by
  intro σ t
  have two : ∀ b : Bool, J100_2 [] D W N b σ = some (.bool b, σ) := fun b => by cases b <;> rfl
  have one : ∀ (b : Bool) (a : Ans) (c : Bool), a = some (.bool c, σ) → condK b (some (.bool b, σ)) a = some (.bool (b || c), σ) := fun b a c h => by
    subst h; cases b <;> rfl
  simp only [F100, J100_0, T100_0, rtCons_cons, rtStr_str, rtNil_nil, two]
  unfold wordB
  repeat (refine one _ _ _ ?_)
  rfl
/-- Of which kind a name is; 0: it may not be. -/
def nameK (w : List Nat) : Nat := match ltF (Int.ofNat 60) (Int.ofNat w.length) || eqF (Int.ofNat (w.getD (w.length - 1) 0)) (Int.ofNat 45) with
  | true => 0
  | false => match wordB (ofN w) with
    | true => 5
    | false => match leF (Int.ofNat (w.getD 0 0)) (Int.ofNat 90) with
      | true => 1
      | false => 2
def tokOf (k : Nat) (w : List Nat) : V := match k with
  | 0 => .tup [.int .i64 (Int.ofNat 0), .str (BS.mk 0 0)]
  | k + 1 => .tup [.int .i64 (Int.ofNat (k + 1)), .str (ofN w)]
def SpTok (len : List Nat → Nat) (kind : List Nat → Nat) (ok : List Nat → Prop) (F : List V → H → Ans) : Prop := ∀ (σ : H) (b i : Nat) (s : BS) (r : List Nat), Lx σ b s i r → ok r →
  ∃ σ', F [.ptr b 0] σ = some (tokOf (kind r) (r.take (len r)), σ') ∧ Mv σ σ' b s (r.drop (len r))
theorem name_F {D : Den} {W : DrawFn} {N : Nat} (hP : SpPeek (D 64)) (hLt : SpLetter (D 66)) (hDg : SpDigit (D 68)) (hW : SpWord (D 100)) (hN : 10000 < N) :
    SpTok nameLen (fun r => nameK (r.take (nameLen r))) (fun r => letterB (r.getD 0 0) = true) (F67 [] D W N) := by
  intro σ b i s r h hok
  have hl := h.len; have hb := h.big
  cases r with
  | nil => cases hok
  | cons c r0 =>
    have hc : letterB c = true := hok
    have hn1 : nameLen (c :: r0) = Nat.succ (nameLen r0) := by
      show (match nameC c r0 with | true => _ | false => _) = _
      have : nameC c r0 = true := by simp only [nameC, hc, Bool.true_or]
      rw [this]
    generalize hr : c :: r0 = r at *
    have hle := nameLen_le r
    have hpos : 0 < nameLen r := by omega
    obtain ⟨σ', g1, g2, g3⟩ := name_L (N := N) (W := W) hP hLt hDg (Int.ofNat i) r N σ b i s (by omega) h
    refine ⟨σ', ?_, g3⟩
    have hp : D 64 [.ptr b 0, .int .i64 (Int.ofNat 0)] σ = some (.int .u8 (Int.ofNat (r.getD 0 0)), σ) := hP σ b i 0 s r h (by omega)
    simp only [F67, J67_0, T67_0, rtCons_cons, rtPtr_ptr, rtNil_nil, h.h1, rtInt_int, hp, callK_some_]
    rw [g1]
    have htl : (r.take (nameLen r)).length = nameLen r := by rw [List.length_take]; omega
    have hw : ∀ j, j < nameLen r → (ofN (r.take (nameLen r))).get j = (r.take (nameLen r)).getD j 0 := fun j hj => by
      have hbd : ∀ c ∈ r.take (nameLen r), c < 256 := fun c hc => h.2.1.bd c (List.mem_of_mem_take hc)
      have h1 : (ofN (r.take (nameLen r))).nats[j]? = some ((ofN (r.take (nameLen r))).get j) := BS.nats_get (by rw [ofN_len, htl]; exact hj)
      rw [ofN_nats hbd] at h1
      rw [List.getD_eq_getElem?_getD, h1]; rfl
    show T67_1 [] D W b 0 (Int.ofNat i) σ' = _
    simp only [T67_1, g2.h0, g2.h1, rtStr_str, rtInt_int, joinB_]
    rw [sliceStrX_both (by omega) (by omega), h.2.1.sub hle]
    generalize hwd : r.take (nameLen r) = w at *
    rw [ofN_len, htl]
    have e0 : eqF (Int.ofNat (w.getD (w.length - 1) 0)) (Int.ofNat 45) = eqF (Int.ofNat (w.getD (nameLen r - 1) 0)) (Int.ofNat 45) := by rw [htl]
    have hlt0 : nameLen r - 1 < (ofN w).len := by rw [ofN_len, htl]; omega
    have hlt1 : 0 < (ofN w).len := by rw [ofN_len, htl]; omega
    rw [subF_nat (by omega) (by omega), idxStrX_nat hlt0, hw _ (by omega)]
    simp only [hW σ' (ofN w), callK_some_, rtBool_bool, idxStrX_nat hlt1, hw 0 (by omega)]
    unfold nameK
    rw [e0, htl]
    cases ltF (Int.ofNat 60) (Int.ofNat (nameLen r)) <;> cases eqF (Int.ofNat (w.getD (nameLen r - 1) 0)) (Int.ofNat 45) <;> cases wordB (ofN w) <;> cases leF (Int.ofNat (w.getD 0 0)) (Int.ofNat 90) <;> rfl

/-! ### signs -/
def signs : List BS := [(BS.mk 3 4012602), (BS.mk 3 3026478), (BS.mk 2 11822), (BS.mk 2 23387), (BS.mk 2 23901), (BS.mk 1 123), (BS.mk 1 125), (BS.mk 1 91), (BS.mk 1 93), (BS.mk 1 40), (BS.mk 1 41), (BS.mk 1 44), (BS.mk 1 58)]
def signIn : List BS → List Nat → Option BS
  | [], _ => none
  | t :: l, r => match preB t.nats r with
    | true => some t
    | false => signIn l r
def signOf (r : List Nat) : Option BS := signIn signs r
theorem sign_L {D : Den} {W : DrawFn} {N : Nat} (hH : SpAhead (D 65)) (gb : Nat) : ∀ (m j n : Nat) (σ : H) (b i : Nat) (s : BS) (r : List Nat), j + m = 13 → m < n → Lx σ b s i r → Atc σ gb (signs.map .str) → gb ≠ b →
    ∃ σ', L72_2 [] D W N n b 0 (.sl gb 0 13 (.ex 13)) (Int.ofNat 13) (Int.ofNat j) σ =
        (match signIn (signs.drop j) r with
          | some t => some (.tup [.int .i64 (Int.ofNat 6), .str t], σ')
          | none => some (.tup [.int .i64 (Int.ofNat 0), .str (BS.mk 0 0)], σ')) ∧
      Mv σ σ' b s (match signIn (signs.drop j) r with
          | some t => r.drop t.len
          | none => r)
  | m, j, 0, _, _, _, _, _, _, hn, _, _, _ => absurd hn (Nat.not_lt_zero _)
  | 0, j, n + 1, σ, b, i, s, r, hj, hn, h, hg, hne => by
    have : j = 13 := by omega
    subst this
    refine ⟨σ, ?_, Mv.refl h⟩
    show T72_2 [] D W (J72_1 [] D W N) (L72_2 [] D W N n) b 0 (.sl gb 0 13 (.ex 13)) (Int.ofNat 13) (Int.ofNat 13) σ = _
    rfl
  | m + 1, j, n + 1, σ, b, i, s, r, hj, hn, h, hg, hne => by
    have e : L72_2 [] D W N (n + 1) b 0 (.sl gb 0 13 (.ex 13)) (Int.ofNat 13) (Int.ofNat j) σ = T72_2 [] D W (J72_1 [] D W N) (L72_2 [] D W N n) b 0 (.sl gb 0 13 (.ex 13)) (Int.ofNat 13) (Int.ofNat j) σ := rfl
    have hjl : j < signs.length := by show j < 13; omega
    obtain ⟨t, ht⟩ : ∃ t, signs[j]? = some t := ⟨_, List.getElem?_eq_getElem hjl⟩
    have hdrop : signs.drop j = t :: signs.drop (j + 1) := by
      have h1 := List.drop_eq_getElem_cons hjl
      have h2 : signs[j] = t := by have := List.getElem?_eq_getElem hjl; rw [ht] at this; exact (Option.some.inj this).symm
      rw [h2] at h1; exact h1
    have hia : ∀ κ : Nat → Nat → Ans, iaddrSK 1 (.sl gb 0 13 (.ex 13)) (Int.ofNat j) κ = κ gb (Nat.add 0 (Nat.mul j 1)) := fun κ => by
      show chk (Nat.blt j 13) _ = _
      exact chk_true (by simp [Nat.blt_eq]; omega)
    have hld : ∀ κ : V → Ans, ldK [] σ gb (Nat.add 0 (Nat.mul j 1)) κ = κ (.str t) := fun κ => ldK_get hg (by
      have : Nat.add 0 (Nat.mul j 1) = j := by show 0 + j * 1 = j; omega
      rw [this, List.getElem?_map, ht]; rfl)
    have hh := hH σ b i s t r h
    have htl : 0 ≤ t.len := Nat.zero_le _
    rw [e, hdrop]
    simp only [T72_2, ltF_nat, hia, hld, rtStr_str, hh, callK_some_, rtBool_bool, h.h1, rtInt_int]
    rw [decide_eq_true (by omega), condK_true]
    have es : signIn (t :: signs.drop (j + 1)) r = (match preB t.nats r with | true => some t | false => signIn (signs.drop (j + 1)) r) := rfl
    rw [es]
    cases hp : preB t.nats r
    · have ha : addF .i64 (Int.ofNat j) (Int.ofNat 1) = Int.ofNat (j + 1) := addF_nat (by omega)
      simp only [condK_false, ha]
      exact sign_L hH gb m (j + 1) n σ b i s r (by omega) (by omega) h hg hne
    · have hlen : t.len ≤ r.length := by have := preB_len hp; rwa [BS.length_nats] at this
      simp only [condK_true]
      rw [h.st hlen]
      exact ⟨_, rfl, Mv.step h hlen⟩
def signLen (r : List Nat) : Nat := match signOf r with
  | some t => t.len
  | none => 0
def SpSign (F : List V → H → Ans) : Prop := ∀ (σ : H) (b i : Nat) (s : BS) (r : List Nat), Lx σ b s i r →
  ∃ σ', F [.ptr b 0] σ = some ((match signOf r with
          | some t => .tup [.int .i64 (Int.ofNat 6), .str t]
          | none => .tup [.int .i64 (Int.ofNat 0), .str (BS.mk 0 0)]), σ') ∧ Mv σ σ' b s (r.drop (signLen r))
theorem sign_F {D : Den} {W : DrawFn} {N : Nat} (hH : SpAhead (D 65)) (hN : 10000 < N) : SpSign (F72 [] D W N) := by
  intro σ b i s r h
  have hne : σ.next ≠ b := by have := h.lt; omega
  have hf : Fr (fun k => k = b) σ (newB σ (.cells (signs.map .str))) := Fr.new h.tidy _
  have h2 : Lx (newB σ (.cells (signs.map .str))) b s i r := ⟨(Fr.new (S := Nowhere) h.tidy _).at_ h.1 h.tidy (fun h => h), h.2.1, h.big, hf.tidy⟩
  obtain ⟨σ', g1, g2⟩ := sign_L (N := N) (W := W) hH σ.next 13 0 N _ b i s r rfl (by omega) h2 (Atc_newB _) hne
  refine ⟨σ', ?_, ?_, hf.trans g2.fr (fun _ _ h => h)⟩
  · show L72_2 [] D W N N b 0 (.sl σ.next 0 13 (.ex 13)) (Int.ofNat 13) (Int.ofNat 0) (newB σ (.cells (signs.map .str))) = _
    rw [g1]
    show (match signIn signs r with | some t => _ | none => _) = some ((match signIn signs r with | some t => _ | none => _), σ')
    cases signIn signs r <;> rfl
  · have e : r.drop (signLen r) = (match signIn (signs.drop 0) r with | some t => r.drop t.len | none => r) := by
      show r.drop (match signIn signs r with | some t => t.len | none => 0) = (match signIn signs r with | some t => r.drop t.len | none => r)
      cases signIn signs r <;> rfl
    rw [e]; exact g2.at_
end
end Go.Proofs.YtdfgcokapncaiaaGreatDoor
set_option linter.all false
set_option maxRecDepth 100000
namespace Go.Proofs.YtdfgcokapncaiaaGreatDoor
open Go Go.Og
noncomputable section

/-! ### the number that digits are -/
def dvalA : Nat → List Nat → Nat
  | a, [] => a
  | a, c :: l => dvalA (10 * a + (c - 48)) l
def dval (l : List Nat) : Nat := dvalA 0 l
theorem dvalA_ge : ∀ (l : List Nat) (a : Nat), a ≤ dvalA a l
  | [], a => Nat.le_refl _
  | c :: l, a => Nat.le_trans (by omega) (dvalA_ge l (10 * a + (c - 48)))
theorem dvalA_append : ∀ (l m : List Nat) (a : Nat), dvalA a (l ++ m) = dvalA (dvalA a l) m
  | [], m, a => rfl
  | c :: l, m, a => dvalA_append l m _
def Digs (l : List Nat) : Prop := ∀ c ∈ l, 48 ≤ c ∧ c ≤ 57
theorem Digs.bd {l : List Nat} (h : Digs l) : ∀ c ∈ l, c < 256 := fun c hc => by have := h c hc; omega

theorem ints_eq (l : List UInt8) : ints l = (l.map UInt8.toNat).map fun c => V.int .u8 (Int.ofNat c) := by
  unfold ints; rw [List.map_map]; rfl
theorem ints_ofN {l : List Nat} (h : ∀ c ∈ l, c < 256) : ints (ofN l).toList = l.map fun c => V.int .u8 (Int.ofNat c) := by
  rw [ints_eq]
  have := ofN_nats h
  unfold BS.nats at this
  rw [this]

section
variable {D : Den} {W : DrawFn} {N : Nat}
theorem uint_L (v9 : BS) (gb : Nat) (ds : List Nat) (hds : Digs ds) (hv : dval ds ≤ 9223372036854775808) (hlen : ds.length ≤ 10000) : ∀ (m j n : Nat) (σ : H), j + m = ds.length → m < n → Atc σ gb (ds.map fun c => V.int .u8 (Int.ofNat c)) →
    L153_5 [] D W N n (Int.ofNat 10) false v9 (Int.ofNat 1844674407370955162) (Int.ofNat 18446744073709551615) false (Int.ofNat (dval (ds.take j))) (.sl gb 0 ds.length (.op 1)) (Int.ofNat ds.length) (Int.ofNat j) σ =
      some (.tup [.int .u64 (Int.ofNat (dval ds)), .nili], σ)
  | m, j, 0, _, _, hn, _ => absurd hn (Nat.not_lt_zero _)
  | 0, j, n + 1, σ, hj, hn, ha => by
    have : j = ds.length := by omega
    subst this
    show T153_5 [] D W (J153_4 [] D W N) (J153_6 [] D W N (L153_5 [] D W N n)) (J153_7 [] D W N (L153_5 [] D W N n)) _ _ _ _ _ _ _ _ _ _ σ = _
    simp only [T153_5, ltF_nat]
    rw [decide_eq_false (by omega), condK_false, List.take_length]
    rfl
  | m + 1, j, n + 1, σ, hj, hn, ha => by
    have hjl : j < ds.length := by omega
    have hc := hds _ (List.getElem_mem hjl)
    generalize hcc : ds[j] = c at hc
    have hia : ∀ κ : Nat → Nat → Ans, iaddrSK 1 (.sl gb 0 ds.length (.op 1)) (Int.ofNat j) κ = κ gb (Nat.add 0 (Nat.mul j 1)) := fun κ => by
      show chk (Nat.blt j ds.length) _ = _
      exact chk_true (by simp [Nat.blt_eq]; omega)
    have hld : ∀ κ : V → Ans, ldK [] σ gb (Nat.add 0 (Nat.mul j 1)) κ = κ (.int .u8 (Int.ofNat c)) := fun κ => ldK_get ha (by
      have : Nat.add 0 (Nat.mul j 1) = j := by show 0 + j * 1 = j; omega
      rw [this, List.getElem?_map, List.getElem?_eq_getElem hjl, hcc]; rfl)
    have htk : dval (ds.take (j + 1)) = 10 * dval (ds.take j) + (c - 48) := by
      rw [List.take_succ_eq_append_getElem hjl, hcc]
      unfold dval
      rw [dvalA_append]; rfl
    have hle : dval (ds.take (j + 1)) ≤ dval ds := by
      have h1 : ds = ds.take (j + 1) ++ ds.drop (j + 1) := (List.take_append_drop _ _).symm
      have h2 : dval ds = dvalA (dval (ds.take (j + 1))) (ds.drop (j + 1)) := by
        unfold dval
        rw [← dvalA_append, ← h1]
      rw [h2]; exact dvalA_ge _ _
    show T153_5 [] D W (J153_4 [] D W N) (J153_6 [] D W N (L153_5 [] D W N n)) (J153_7 [] D W N (L153_5 [] D W N n)) _ _ _ _ _ _ _ _ _ _ σ = _
    simp only [T153_5, ltF_nat, hia, hld, rtInt_int, joinB_, eqF_nat, leF_nat]
    rw [decide_eq_true (by omega), condK_true, decide_eq_false (show ¬ c = 95 by omega), condK_false, condK_false, decide_eq_true hc.1, condK_true, decide_eq_true hc.2, condK_true]
    have hsub : subF .u8 (Int.ofNat c) (Int.ofNat 48) = Int.ofNat (c - 48) := by
      have e : Int.sub (Int.ofNat c) (Int.ofNat 48) = Int.ofNat (c - 48) := by
        show (c : Int) - ((48 : Nat) : Int) = ((c - 48 : Nat) : Int); omega
      show wrapF .u8 (Int.sub (Int.ofNat c) (Int.ofNat 48)) = _
      rw [e]
      exact wrapF_nat (k := .u8) (show c - 48 ≤ 255 by omega)
    rw [hsub]
    show T153_7 [] D W (J153_6 [] D W N (L153_5 [] D W N n)) _ _ _ _ _ _ _ _ _ _ _ σ = _
    have w8 : wrapF .u8 (Int.ofNat 10) = Int.ofNat 10 := rfl
    have w64 : wrapF .u64 (Int.ofNat 10) = Int.ofNat 10 := rfl
    have w64c : wrapF .u64 (Int.ofNat (c - 48)) = Int.ofNat (c - 48) := wrapF_nat (k := .u64) (show c - 48 ≤ 18446744073709551615 by omega)
    have hmul : mulF .u64 (Int.ofNat (dval (ds.take j))) (Int.ofNat 10) = Int.ofNat (dval (ds.take j) * 10) := by
      exact wrapF_nat (k := .u64) (m := dval (ds.take j) * 10) (show _ ≤ 18446744073709551615 by omega)
    have hadd : addF .u64 (Int.ofNat (dval (ds.take j) * 10)) (Int.ofNat (c - 48)) = Int.ofNat (dval (ds.take (j + 1))) := by
      refine (wrapF_nat (k := .u64) (m := dval (ds.take j) * 10 + (c - 48)) (show _ ≤ 18446744073709551615 by omega)).trans ?_
      show Int.ofNat _ = Int.ofNat _
      congr 1; omega
    have hj1 : addF .i64 (Int.ofNat j) (Int.ofNat 1) = Int.ofNat (j + 1) := addF_nat (by omega)
    simp only [T153_7, w8, w64, w64c, hmul, hadd, leF_nat, ltF_nat, joinB_]
    rw [decide_eq_false (by omega), condK_false, decide_eq_false (by omega), condK_false, decide_eq_false (by omega), condK_false, decide_eq_false (by omega), condK_false]
    show L153_5 [] D W N n _ _ _ _ _ _ _ _ _ (addF .i64 (Int.ofNat j) (Int.ofNat 1)) σ = _
    rw [hj1]
    exact uint_L v9 gb ds hds hv hlen m (j + 1) n σ (by omega) (by omega) ha
def SpUint (F : List V → H → Ans) : Prop := ∀ (σ : H) (ds : List Nat), Tidy σ → Digs ds → ds ≠ [] → ds.length ≤ 10000 → dval ds ≤ 9223372036854775808 →
  ∃ σ', F [.str (ofN ds), .int .i64 (Int.ofNat 10), .int .i64 (Int.ofNat 64)] σ = some (.tup [.int .u64 (Int.ofNat (dval ds)), .nili], σ') ∧ Fr Nowhere σ σ'
theorem beq_empty {l : List Nat} (hb : ∀ c ∈ l, c < 256) (h : l ≠ []) : BS.beq (ofN l) (BS.mk 0 0) = false := by
  rw [BS.beq_nats, ofN_nats hb, decide_eq_false]
  exact h
theorem uint_F (hN : 10000 < N) : SpUint (F153 [] D W N) := by
  intro σ ds ht hds hne hlen hv
  refine ⟨newB σ (.cells (ds.map fun c => V.int .u8 (Int.ofNat c))), ?_, Fr.new ht _⟩
  simp only [F153, rtCons_cons, rtStr_str, rtInt_int, rtNil_nil]
  show T153_0 [] D W (J153_1 [] D W N) (ofN ds) (Int.ofNat 10) (Int.ofNat 64) σ = _
  unfold T153_0
  rw [beq_empty hds.bd hne, condK_false]
  show T153_3 [] D W (L153_5 [] D W N N) (ofN ds) (Int.ofNat 10) (Int.ofNat 64) false (ofN ds) (Int.ofNat 1844674407370955162) σ = _
  have hlo : (ofN ds).len = ds.length := ofN_len ds
  have hsub : subF .u64 (shlF .u64 (Int.ofNat 1) 64) (Int.ofNat 1) = Int.ofNat 18446744073709551615 := by decide +kernel
  show chk (Nat.ble (ofN ds).len 1000000000000) _ = _
  rw [chk_true (ble_of (by omega))]
  show L153_5 [] D W N N (Int.ofNat 10) false (ofN ds) (Int.ofNat 1844674407370955162) (subF .u64 (shlF .u64 (Int.ofNat 1) 64) (Int.ofNat 1)) false (Int.ofNat 0) (.sl σ.next 0 (ofN ds).len (.op 1)) (Int.ofNat (ofN ds).len) (Int.ofNat 0) (newB σ (.cells (ints (ofN ds).toList))) = _
  rw [hsub, hlo, ints_ofN hds.bd]
  exact uint_L (ofN ds) σ.next ds hds hv hlen ds.length 0 N _ (by omega) (by omega) (Atc_newB _)

def numT (neg : Bool) (ds : List Nat) : List Nat := match neg with
  | true => 45 :: ds
  | false => ds
/-- The text of a number, as it is asked for. -/
structure NumOk (w : List Nat) (v : Int) : Prop where
  ex : ∃ neg ds, w = numT neg ds ∧ Digs ds ∧ ds ≠ [] ∧ v = (match neg with | true => -(dval ds : Int) | false => (dval ds : Int))
  lo : -9223372036854775808 ≤ v
  hi : v ≤ 9223372036854775807
  len : w.length ≤ 10000
def SpInt (F : List V → H → Ans) : Prop := ∀ (σ : H) (w : List Nat) (v : Int), Tidy σ → NumOk w v →
  ∃ σ', F [.str (ofN w), .int .i64 (Int.ofNat 10), .int .i64 (Int.ofNat 64)] σ = some (.tup [.int .i64 v, .nili], σ') ∧ Fr Nowhere σ σ'
theorem wrap64 {v : Int} (h : -9223372036854775808 ≤ v) (h2 : v ≤ 9223372036854775807) : wrapF .i64 v = v := by
  cases v with
  | ofNat m =>
    refine wrapF_nat (k := .i64) ?_
    show m ≤ 9223372036854775807
    simp only [Int.ofNat_eq_natCast] at h2; omega
  | negSucc m =>
    refine (wrapF_eq _ _).trans (wrap_in ?_)
    show Nat.blt m 9223372036854775808 = true
    rw [Nat.blt_eq]; omega
theorem neg64 {n : Nat} (h : n ≤ 9223372036854775808) : negF .i64 (wrapF .i64 (Int.ofNat n)) = -(n : Int) := by
  by_cases hn : n = 9223372036854775808
  · subst hn; decide +kernel
  · rw [wrap64 (by simp only [Int.ofNat_eq_natCast]; omega) (by simp only [Int.ofNat_eq_natCast]; omega)]
    show wrapF .i64 (0 - (n : Int)) = _
    rw [wrap64 (by omega) (by omega)]; omega
theorem iint_F (hU : SpUint (D 153)) : SpInt (F127 [] D W N) := by
  rintro σ w v ht ⟨⟨neg, ds, rfl, hds, hne, rfl⟩, hlo, hhi, hlen⟩
  have htail : ∀ (neg : Bool) (hv : match neg with | true => dval ds ≤ 9223372036854775808 | false => dval ds ≤ 9223372036854775807) (hl : ds.length ≤ 10000), ∃ σ', J127_1 [] D W N (ofN ds) (Int.ofNat 10) (Int.ofNat 64) neg σ =
      some (.tup [.int .i64 (match neg with | true => -(dval ds : Int) | false => (dval ds : Int)), .nili], σ') ∧ Fr Nowhere σ σ' := fun neg hv hl => by
    obtain ⟨σ', g1, g2⟩ := hU σ ds ht hds hne hl (by cases neg <;> simp only [] at hv <;> omega)
    refine ⟨σ', ?_, g2⟩
    show T127_1 [] D W (J127_2 [] D W N) (ofN ds) (Int.ofNat 10) (Int.ofNat 64) neg σ = _
    simp only [T127_1, g1, callK_some_, rtTup_tup, rtCons_cons, rtInt_int, rtNil_nil]
    show T127_2 [] D W (J127_3 [] D W N) (Int.ofNat 64) neg (Int.ofNat (dval ds)) σ' = _
    have hs : shlF .u64 (Int.ofNat 1) 63 = Int.ofNat 9223372036854775808 := by decide +kernel
    have h63 : wrapF .u64 (subF .i64 (Int.ofNat 64) (Int.ofNat 1)) = Int.ofNat 63 := by decide +kernel
    unfold T127_2
    rw [h63]
    have nn : ∀ κ : Nat → Ans, nnK (Int.ofNat 63) κ = κ 63 := fun _ => rfl
    rw [nn]
    simp only [joinB_]
    cases neg
    · simp only [] at hv
      simp only [Bool.not_false, condK_true, condK_false]
      rw [hs, leF_nat, decide_eq_false (by omega), condK_false]
      show some (V.tup [.int .i64 (wrapF .i64 (Int.ofNat (dval ds))), .nili], σ') = _
      rw [wrap64 (by simp only [Int.ofNat_eq_natCast]; omega) (by simp only [Int.ofNat_eq_natCast]; omega)]
      rfl
    · simp only [] at hv
      simp only [Bool.not_true, condK_true, condK_false]
      rw [hs, ltF_nat, decide_eq_false (by omega), condK_false]
      show some (V.tup [.int .i64 (negF .i64 (wrapF .i64 (Int.ofNat (dval ds)))), .nili], σ') = _
      rw [neg64 hv]
  simp only [F127, rtCons_cons, rtStr_str, rtInt_int, rtNil_nil]
  cases neg
  · simp only [numT] at hlo hhi hlen ⊢
    obtain ⟨σ', g1, g2⟩ := htail false (by simp only []; omega) hlen
    refine ⟨σ', ?_, g2⟩
    rw [← g1]
    cases ds with
    | nil => exact absurd rfl hne
    | cons c l =>
      have hc := hds c (by simp)
      have hget : (ofN (c :: l)).get 0 = c := by
        have h1 : (ofN (c :: l)).nats[0]? = some ((ofN (c :: l)).get 0) := BS.nats_get (by rw [ofN_len]; simp)
        rw [ofN_nats hds.bd] at h1
        exact (Option.some.inj h1).symm
      show T127_0 [] D W (J127_1 [] D W N) (ofN (c :: l)) (Int.ofNat 10) (Int.ofNat 64) σ = _
      unfold T127_0
      rw [beq_empty hds.bd hne, condK_false, idxStrX_nat (by rw [ofN_len]; simp), hget, eqF_nat, decide_eq_false (by omega), condK_false, eqF_nat, decide_eq_false (by omega), condK_false]
  · simp only [numT] at hlo hhi hlen ⊢
    obtain ⟨σ', g1, g2⟩ := htail true (by simp only []; omega) (by simp at hlen; omega)
    refine ⟨σ', ?_, g2⟩
    rw [← g1]
    have hbd : ∀ c ∈ 45 :: ds, c < 256 := fun c hc => by
      rcases List.mem_cons.1 hc with rfl | hc
      · omega
      · exact hds.bd c hc
    have hget : (ofN (45 :: ds)).get 0 = 45 := by
      have h1 : (ofN (45 :: ds)).nats[0]? = some ((ofN (45 :: ds)).get 0) := BS.nats_get (by rw [ofN_len]; simp)
      rw [ofN_nats hbd] at h1
      exact (Option.some.inj h1).symm
    show T127_0 [] D W (J127_1 [] D W N) (ofN (45 :: ds)) (Int.ofNat 10) (Int.ofNat 64) σ = _
    unfold T127_0
    rw [beq_empty hbd (by simp), condK_false, idxStrX_nat (by rw [ofN_len]; simp), hget, eqF_nat, decide_eq_false (by omega), condK_false, eqF_nat, decide_eq_true rfl, condK_true, sliceStrX_from (by rw [ofN_len]; simp)]
    have hs : (ofN (45 :: ds)).sub 1 (ofN (45 :: ds)).len = ofN ds := by
      rw [sub_ofN (Nat.le_refl _), ofN_nats hbd, ofN_len]
      simp
    rw [hs]
theorem sint_F (hI : SpInt (D 127)) : SpInt (F101 [] D W N) := by
  intro σ w v ht hw
  obtain ⟨σ', g1, g2⟩ := hI σ w v ht hw
  refine ⟨σ', ?_, g2⟩
  simp only [F101, J101_0, T101_0, rtCons_cons, rtStr_str, rtInt_int, rtNil_nil, g1, callK_some_, rtTup_tup]
  rfl
end
end
end Go.Proofs.YtdfgcokapncaiaaGreatDoor
set_option linter.all false
set_option maxRecDepth 100000
namespace Go.Proofs.YtdfgcokapncaiaaGreatDoor
open Go Go.Og
noncomputable section

/-! ### number -/
def digLen : List Nat → Nat
  | [] => 0
  | c :: r => match digitB c with
    | true => Nat.succ (digLen r)
    | false => 0
theorem digitB_iff (c : Nat) : digitB c = true ↔ 48 ≤ c ∧ c ≤ 57 := by
  unfold digitB; rw [leF_nat, leF_nat]; simp
theorem digLen_app : ∀ (ds : List Nat) (r : List Nat), Digs ds → digitB (r.getD 0 0) = false → digLen (ds ++ r) = ds.length
  | [], [], _, _ => rfl
  | [], c :: r, _, h => by
    have h' : digitB c = false := h
    show digLen (c :: r) = 0
    unfold digLen; rw [h']
  | d :: ds, r, hd, h => by
    have h1 : digitB d = true := (digitB_iff d).2 (hd d (by simp))
    show digLen (d :: (ds ++ r)) = _
    unfold digLen
    rw [h1]
    simp only [List.length_cons, digLen_app ds r (fun c hc => hd c (by simp [hc])) h]
section
variable {D : Den} {W : DrawFn} {N : Nat}
theorem dig_L (hP : SpPeek (D 64)) (hDg : SpDigit (D 68)) (v4 v5 : Int) : ∀ (r : List Nat) (n : Nat) (σ : H) (b i : Nat) (s : BS), r.length < n → Lx σ b s i r →
    ∃ σ', L69_3 [] D W N n b 0 v4 v5 σ = J69_2 [] D W N b 0 v4 v5 σ' ∧ Lx σ' b s (i + digLen r) (r.drop (digLen r)) ∧ Mv σ σ' b s (r.drop (digLen r))
  | r, 0, _, _, _, _, hn, _ => absurd hn (Nat.not_lt_zero _)
  | [], n + 1, σ, b, i, s, _, h => by
    refine ⟨σ, ?_, h, Mv.refl h⟩
    have hp : D 64 [.ptr b 0, .int .i64 (Int.ofNat 0)] σ = some (.int .u8 (Int.ofNat 0), σ) := hP σ b i 0 s [] h (by omega)
    show T69_3 [] D W (J69_2 [] D W N) (L69_3 [] D W N n) b 0 v4 v5 σ = _
    simp only [T69_3, hp, callK_some_, rtInt_int, hDg σ 0, rtBool_bool]
    rfl
  | c :: r, n + 1, σ, b, i, s, hn, h => by
    have hp : D 64 [.ptr b 0, .int .i64 (Int.ofNat 0)] σ = some (.int .u8 (Int.ofNat c), σ) := hP σ b i 0 s (c :: r) h (by omega)
    have e : L69_3 [] D W N (n + 1) b 0 v4 v5 σ = T69_3 [] D W (J69_2 [] D W N) (L69_3 [] D W N n) b 0 v4 v5 σ := rfl
    rw [e]
    simp only [T69_3, hp, callK_some_, rtInt_int, hDg σ c, rtBool_bool, h.h1]
    cases hd : digitB c
    · have e2 : digLen (c :: r) = 0 := by show (match digitB c with | true => _ | false => _) = _; rw [hd]
      rw [e2, condK_false]
      exact ⟨σ, rfl, h, Mv.refl h⟩
    · have e2 : digLen (c :: r) = Nat.succ (digLen r) := by show (match digitB c with | true => _ | false => _) = _; rw [hd]
      rw [e2, condK_true, h.st (k := 1) (by simp)]
      obtain ⟨σ', g1, g2, g3⟩ := dig_L hP hDg v4 v5 r n (mv σ b s (i + 1)) b (i + 1) s (by simp at hn; omega) (h.go (k := 1) (by simp))
      refine ⟨σ', g1, ?_, ?_⟩
      · have : i + (digLen r).succ = i + 1 + digLen r := by omega
        rw [this]; exact g2
      · exact (Mv.step h (k := 1) (by simp)).trans g3
/-- A number that may be, with what stands behind it. -/
structure NumAt (r w r' : List Nat) (v : Int) : Prop where
  eq : r = w ++ r'
  ok : NumOk w v
  lead : ∀ neg ds, w = numT neg ds → Digs ds → ds.getD 0 0 = 48 → ds.length = 1 ∧ neg = false
  next : letterB (r'.getD 0 0) = false ∧ digitB (r'.getD 0 0) = false
def SpNum (F : List V → H → Ans) : Prop := ∀ (σ : H) (b i : Nat) (s : BS) (r w r' : List Nat) (v : Int), Lx σ b s i r → NumAt r w r' v →
  ∃ σ', F [.ptr b 0] σ = some (.tup [.int .i64 (Int.ofNat 3), .str (ofN w)], σ') ∧ Mv σ σ' b s r'
theorem num_tail (hP : SpPeek (D 64)) (hLt : SpLetter (D 66)) (hDg : SpDigit (D 68)) (hI : SpInt (D 101)) (hN : 10000 < N) {σ0 σ : H} {b i0 i : Nat} {s : BS} {r0 ds r' w : List Nat} {v : Int}
    (h0 : Lx σ0 b s i0 r0) (hr0 : r0 = w ++ r') (h : Lx σ b s i (ds ++ r')) (hw : i0 + w.length = i + ds.length) (hlt : i0 ≤ i) (hds : Digs ds) (hne : ds ≠ []) (hok : NumOk w v)
    (hlead : ds.getD 0 0 = 48 → ¬ (1 < ds.length) ∧ ¬ (i0 < i)) (hnext : letterB (r'.getD 0 0) = false ∧ digitB (r'.getD 0 0) = false) :
    ∃ σ', J69_1 [] D W N b 0 (Int.ofNat i0) σ = some (.tup [.int .i64 (Int.ofNat 3), .str (ofN w)], σ') ∧ Mv σ σ' b s r' := by
  have hl := h.len; have hb := h.big
  have hdl : digLen (ds ++ r') = ds.length := digLen_app ds r' hds hnext.2
  obtain ⟨σ1, g1, g2, g3⟩ := dig_L (N := N) (W := W) hP hDg (Int.ofNat i0) (Int.ofNat i) (ds ++ r') N σ b i s (by omega) h
  rw [hdl] at g2 g3
  have hdr : (ds ++ r').drop ds.length = r' := List.drop_left
  rw [hdr] at g2 g3
  have e1 : J69_1 [] D W N b 0 (Int.ofNat i0) σ = J69_2 [] D W N b 0 (Int.ofNat i0) (Int.ofNat i) σ1 := by
    show T69_1 [] D W (L69_3 [] D W N N) b 0 (Int.ofNat i0) σ = _
    simp only [T69_1, h.h1, rtInt_int]
    exact g1
  obtain ⟨σ2, p1, p2⟩ := hI σ1 w v g2.tidy hok
  have x2 : Lx σ2 b s (i + ds.length) r' := ⟨p2.at_ g2.1 g2.tidy (fun h => h), g2.2.1, g2.big, p2.tidy⟩
  refine ⟨σ2, ?_, ⟨⟨_, x2⟩, g3.fr.trans p2 (fun _ _ h => h.elim)⟩⟩
  rw [e1]
  show T69_2 [] D W b 0 (Int.ofNat i0) (Int.ofNat i) σ1 = _
  have hl0 := h0.len
  rw [hr0] at hl0
  have hls : s.sub i0 (i + ds.length) = ofN w := by
    rw [← hw, h0.2.1.sub (k := w.length) (by rw [hr0]; simp), hr0, List.take_left]
  simp only [T69_2, g2.h0, g2.h1, rtStr_str, rtInt_int]
  simp only [List.length_append] at hl hl0
  have hdp : 0 < ds.length := by cases ds with | nil => exact absurd rfl hne | cons _ _ => simp
  have hgd : s.get i = ds.getD 0 0 := by
    have := h.2.1.getD_lt (k := 0) (by omega)
    rw [Nat.add_zero] at this
    rw [← this]
    cases ds with
    | nil => exact absurd rfl hne
    | cons _ _ => rfl
  rw [sliceStrX_both (by omega) (by omega), hls, idxStrX_nat (by omega), hgd]
  have hp2 : D 64 [.ptr b 0, .int .i64 (Int.ofNat 0)] σ2 = some (.int .u8 (Int.ofNat (r'.getD 0 0)), σ2) := hP σ2 b _ 0 s r' x2 (by omega)
  have ek : ∀ κ : Bool → Ans, eqK (.iface true) .nili .nili κ = κ true := fun _ => rfl
  simp only [p1, callK_some_, rtTup_tup, rtCons_cons, rtInt_int, rtNil_nil, ek, joinB_, x2.h1, Bool.not_true, condK_false]
  have fin : (condK false (some (V.tup [.int .i64 (Int.ofNat 0), .str (BS.mk 0 0)], σ2)) (some (V.tup [.int .i64 (Int.ofNat 3), .str (ofN w)], σ2))) = some (V.tup [.int .i64 (Int.ofNat 3), .str (ofN w)], σ2) := rfl
  cases h48 : eqF (Int.ofNat (ds.getD 0 0)) (Int.ofNat 48)
  · simp only [condK_false, hp2, callK_some_, rtInt_int, hLt σ2 _, rtBool_bool, hnext.1]
  · rw [eqF_nat] at h48
    have hh := hlead (of_decide_eq_true h48)
    rw [condK_true, subF_nat (by omega) (by omega), ltF_nat, decide_eq_false (by omega), condK_false, ltF_nat, decide_eq_false hh.2, condK_false]
    simp only [hp2, callK_some_, rtInt_int, hLt σ2 _, rtBool_bool, hnext.1, condK_false]
theorem num_F (hP : SpPeek (D 64)) (hLt : SpLetter (D 66)) (hDg : SpDigit (D 68)) (hI : SpInt (D 101)) (hN : 10000 < N) : SpNum (F69 [] D W N) := by
  intro σ b i s r w r' v h hn
  have hl := h.len; have hb := h.big
  obtain ⟨neg, ds, hw, hds, hne, hv⟩ := hn.ok.ex
  have hdp : 0 < ds.length := by cases ds with | nil => exact absurd rfl hne | cons _ _ => simp
  have hd0 : 48 ≤ ds.getD 0 0 ∧ ds.getD 0 0 ≤ 57 := by
    cases ds with
    | nil => exact absurd rfl hne
    | cons c l => exact hds c (by simp)
  have hp : D 64 [.ptr b 0, .int .i64 (Int.ofNat 0)] σ = some (.int .u8 (Int.ofNat (r.getD 0 0)), σ) := hP σ b i 0 s r h (by omega)
  show ∃ σ', F69 [] D W N [.ptr b 0] σ = _ ∧ _
  have e0 : F69 [] D W N [.ptr b 0] σ = T69_0 [] D W (J69_1 [] D W N) b 0 σ := rfl
  rw [e0]
  simp only [T69_0, h.h1, rtInt_int, hp, callK_some_]
  cases neg
  · have hr : r = ds ++ r' := by rw [hn.eq, hw]; rfl
    have hg : r.getD 0 0 = ds.getD 0 0 := by
      rw [hr]
      cases ds with
      | nil => exact absurd rfl hne
      | cons _ _ => rfl
    rw [hg, eqF_nat, decide_eq_false (by omega), condK_false]
    have hlead : ds.getD 0 0 = 48 → ¬ (1 < ds.length) ∧ ¬ (i < i) := fun h48 => by
      have := (hn.lead false ds hw hds h48).1
      omega
    exact num_tail hP hLt hDg hI hN h hn.eq (hr ▸ h) (by rw [hw]; rfl) (Nat.le_refl _) hds hne hn.ok hlead hn.next
  · have hr : r = 45 :: (ds ++ r') := by rw [hn.eq, hw]; rfl
    have hg : r.getD 0 0 = 45 := by rw [hr]; rfl
    rw [hg, eqF_nat, decide_eq_true rfl, condK_true]
    rw [h.st (k := 1) (by rw [hr]; simp)]
    have h2 := h.go (k := 1) (by rw [hr]; simp)
    have hd1 : r.drop 1 = ds ++ r' := by rw [hr]; rfl
    rw [hd1] at h2
    have hlead : ds.getD 0 0 = 48 → ¬ (1 < ds.length) ∧ ¬ (i < i + 1) := fun h48 => by
      have := (hn.lead true ds hw hds h48).2
      cases this
    obtain ⟨σ', g1, g2⟩ := num_tail (W := W) hP hLt hDg hI hN h hn.eq h2 (by rw [hw]; show i + (ds.length + 1) = _; omega) (by omega) hds hne hn.ok hlead hn.next
    refine ⟨σ', g1, ?_⟩
    have m0 := Mv.step h (k := 1) (by rw [hr]; simp)
    exact m0.trans g2

/-! ### one sign of whatever kind -/
/-- At r there stands one sign, of that kind, text, and what is behind it. -/
inductive Step : List Nat → Nat → List Nat → List Nat → Prop
  | name {r : List Nat} {k : Nat} : letterB (r.getD 0 0) = true → nameK (r.take (nameLen r)) = k + 1 → Step r (k + 1) (r.take (nameLen r)) (r.drop (nameLen r))
  | number {r w r' : List Nat} {v : Int} : NumAt r w r' v → Step r 3 w r'
  | sign {r : List Nat} {t : BS} : letterB (r.getD 0 0) = false → digitB (r.getD 0 0) = false → r.getD 0 0 ≠ 39 → r.getD 0 0 ≠ 34 → (r.getD 0 0 = 45 → digitB (r.getD 1 0) = false) → signOf r = some t → Step r 6 t.nats (r.drop t.len)
def SpToken (F : List V → H → Ans) : Prop := ∀ (σ : H) (b i : Nat) (s : BS) (r w r' : List Nat) (k : Nat), Lx σ b s i r → Step r k w r' →
  ∃ σ' t, F [.ptr b 0] σ = some (.tup [.int .i64 (Int.ofNat k), .str t], σ') ∧ t = ofN w ∧ Mv σ σ' b s r'
theorem signs_canon : ∀ t ∈ signs, t = ofN t.nats := by
  intro t ht
  have : signs.all (fun t => decide (t = ofN t.nats)) = true := by decide +kernel
  exact of_decide_eq_true (List.all_eq_true.1 this t ht)
theorem signIn_mem : ∀ {l : List BS} {r : List Nat} {t : BS}, signIn l r = some t → t ∈ l
  | [], _, _, h => by cases h
  | a :: l, r, t, h => by
    unfold signIn at h
    cases hp : preB a.nats r <;> rw [hp] at h
    · exact List.mem_cons_of_mem _ (signIn_mem h)
    · simp only [Option.some.injEq] at h; subst h; exact List.mem_cons_self
theorem Step.lt {r w r' : List Nat} {k : Nat} (hr : 0 < r.length) (hst : Step r k w r') : r'.length < r.length := by
  cases hst with
  | name hl0 hk' =>
    have : 0 < nameLen r := by
      cases r with
      | nil => simp at hr
      | cons c r0 =>
        have hc : letterB c = true := hl0
        show 0 < (match nameC c r0 with | true => _ | false => _)
        have : nameC c r0 = true := by simp only [nameC, hc, Bool.true_or]
        rw [this]; exact Nat.succ_pos _
    rw [List.length_drop]; omega
  | number hn' =>
    obtain ⟨neg, ds, hw, hds, hne, hv'⟩ := hn'.ok.ex
    have := congrArg List.length hn'.eq
    have hwl : 0 < w.length := by
      rw [hw]
      cases neg
      · cases ds with
        | nil => exact absurd rfl hne
        | cons _ _ => simp [numT]
      · simp [numT]
    simp at this; omega
  | @sign t _ _ _ _ _ hso =>
    have : 0 < t.len := by
      have hm := signIn_mem hso
      have ha : signs.all (fun t => decide (0 < t.len)) = true := by decide +kernel
      exact of_decide_eq_true (List.all_eq_true.1 ha t hm)
    rw [List.length_drop]; omega
theorem token_F (hP : SpPeek (D 64)) (hLt : SpLetter (D 66)) (hDg : SpDigit (D 68)) (hNm : SpTok nameLen (fun r => nameK (r.take (nameLen r))) (fun r => letterB (r.getD 0 0) = true) (D 67))
    (hNu : SpNum (D 69)) (hS : SpSign (D 72)) : SpToken (F41 [] D W N) := by
  intro σ b i s r w r' k h hs
  have hp : D 64 [.ptr b 0, .int .i64 (Int.ofNat 0)] σ = some (.int .u8 (Int.ofNat (r.getD 0 0)), σ) := hP σ b i 0 s r h (by omega)
  have hp1 : D 64 [.ptr b 0, .int .i64 (Int.ofNat 1)] σ = some (.int .u8 (Int.ofNat (r.getD 1 0)), σ) := hP σ b i 1 s r h (by omega)
  have e0 : F41 [] D W N [.ptr b 0] σ = T41_0 [] D W b 0 σ := rfl
  cases hs with
  | name hl hk =>
    obtain ⟨σ', g1, g2⟩ := hNm σ b i s r h hl
    refine ⟨σ', _, ?_, rfl, g2⟩
    rw [e0]
    simp only [] at g1
    rw [hk] at g1
    simp only [T41_0, hp, callK_some_, rtInt_int, hLt σ _, rtBool_bool, hl, condK_true, g1, tokOf, rtTup_tup, rtCons_cons, rtStr_str, rtNil_nil]
  | number hn =>
    obtain ⟨σ', g1, g2⟩ := hNu σ b i s r w r' _ h hn
    refine ⟨σ', _, ?_, rfl, g2⟩
    obtain ⟨neg, ds, hw, hds, hne, hv⟩ := hn.ok.ex
    have hd0 : digitB (ds.getD 0 0) = true := by
      cases ds with
      | nil => exact absurd rfl hne
      | cons c l => exact (digitB_iff c).2 (hds c (by simp))
    have hdl : ∀ c, digitB c = true → letterB c = false := fun c hc => by
      have := (digitB_iff c).1 hc
      unfold letterB; rw [leF_nat, leF_nat, leF_nat, leF_nat]
      rw [decide_eq_false (show ¬ 97 ≤ c by omega), decide_eq_false (show ¬ 65 ≤ c by omega)]; rfl
    rw [e0]
    cases neg
    · have hg : r.getD 0 0 = ds.getD 0 0 := by
        rw [hn.eq, hw]
        cases ds with
        | nil => exact absurd rfl hne
        | cons _ _ => rfl
      rw [hg] at hp
      simp only [T41_0, hp, callK_some_, rtInt_int, hLt σ _, hDg σ _, rtBool_bool, hd0, hdl _ hd0, condK_true, condK_false, joinB_, g1, rtTup_tup, rtCons_cons, rtStr_str, rtNil_nil]
    · have hg : r.getD 0 0 = 45 := by rw [hn.eq, hw]; rfl
      have hg1 : r.getD 1 0 = ds.getD 0 0 := by
        rw [hn.eq, hw]
        cases ds with
        | nil => exact absurd rfl hne
        | cons _ _ => rfl
      rw [hg] at hp
      rw [hg1] at hp1
      have l45 : letterB 45 = false := rfl
      have d45 : digitB 45 = false := rfl
      have q45 : eqF (Int.ofNat 45) (Int.ofNat 45) = true := rfl
      simp only [T41_0, hp, hp1, callK_some_, rtInt_int, hLt σ _, hDg σ _, rtBool_bool, hd0, l45, d45, q45, condK_true, condK_false, joinB_, g1, rtTup_tup, rtCons_cons, rtStr_str, rtNil_nil]
  | @sign t hl hd h39 h34 h45 hso =>
    obtain ⟨σ', g1, g2⟩ := hS σ b i s r h
    rw [hso] at g1
    have hsl : signLen r = t.len := by unfold signLen; rw [hso]
    rw [hsl] at g2
    refine ⟨σ', t, ?_, signs_canon t (signIn_mem hso), g2⟩
    simp only [] at g1
    rw [e0]
    simp only [T41_0, hp, hp1, callK_some_, rtInt_int, hLt σ _, hDg σ _, rtBool_bool, hl, hd, condK_true, condK_false, joinB_, eqF_nat, decide_eq_false h39, decide_eq_false h34, g1, rtTup_tup, rtCons_cons, rtStr_str, rtNil_nil]
    by_cases hc : r.getD 0 0 = 45
    · rw [decide_eq_true hc, condK_true, h45 hc, condK_false]
    · rw [decide_eq_false hc, condK_false]

/-! ### all of them -/
/-- The signs of a text from r on, where nothing white stands ahead: kind, text, and place. -/
inductive Toks (N len : Nat) : List Nat → List (Nat × List Nat × Nat) → Prop
  | nil : Toks N len [] []
  | cons {r w r' : List Nat} {k : Nat} {ts : List (Nat × List Nat × Nat)} : 0 < r.length → 0 < k → Step r k w r' → Toks N len (skipF N r') ts → Toks N len r ((k, w, len - r.length) :: ts)
def tokCells (ts : List (Nat × List Nat × Nat)) : List V := ts.flatMap fun t => [.int .i64 (Int.ofNat t.1), .str (ofN t.2.1), .int .i64 (Int.ofNat t.2.2)]
theorem tokCells_len (ts : List (Nat × List Nat × Nat)) : (tokCells ts).length = ts.length * 3 := by
  unfold tokCells
  induction ts with
  | nil => rfl
  | cons t ts ih => simp only [List.flatMap_cons, List.length_append, ih, List.length_cons, List.length_nil]; omega
theorem tokCells_app (a b : List (Nat × List Nat × Nat)) : tokCells (a ++ b) = tokCells a ++ tokCells b := List.flatMap_append
theorem grow3 {k : Nat} (h : k ≤ 10001) : growable k 32 = true := by
  unfold growable
  rw [Bool.and_eq_true]
  exact ⟨ble_of (by omega), ble_of (by omega)⟩
theorem toks_L (hT : SpToken (D 41)) (hK : SpSkip N (D 40)) (s : BS) : ∀ (n : Nat) (r : List Nat) (ts acc : List (Nat × List Nat × Nat)) (σ : H) (b i : Nat) (v : V), ts.length < n → acc.length + r.length ≤ 10000 → Lx σ b s i r → Toks N s.len r ts →
    Sl σ 3 acc.length v (tokCells acc) → (∀ c, Names v c → c ≠ b) →
    ∃ σ' u, L24_2 [] D W N n s b 0 v σ = some (.tup [u, .int .i64 (Int.ofNat 0), .int .i64 (Int.ofNat 0)], σ') ∧ Sl σ' 3 (acc.length + ts.length + 1) u (tokCells (acc ++ ts ++ [(0, [], s.len)])) ∧
      Fr (fun c => c = b ∨ Names v c) σ σ'
  | 0, _, _, _, _, _, _, _, hn, _, _, _, _, _ => absurd hn (Nat.not_lt_zero _)
  | n + 1, r, ts, acc, σ, b, i, v, hn, ha, h, ht, hv, hvb => by
    have hl := h.len; have hb := h.big
    have e : L24_2 [] D W N (n + 1) s b 0 v σ = T24_2 [] D W (J24_1 [] D W N) (L24_2 [] D W N n) s b 0 v σ := rfl
    rw [e]
    simp only [T24_2, h.h1, rtInt_int, ltF_nat]
    cases ht with
    | nil =>
      rw [decide_eq_false (by simp at hl; omega), condK_false]
      show ∃ σ' u, T24_1 [] D W s v σ = _ ∧ _
      have f1 : Fr (fun c => c = b ∨ Names v c) σ (newB σ (.cells [.int .i64 (Int.ofNat 0), .str (BS.mk 0 0), .int .i64 (Int.ofNat s.len)])) := Fr.new h.tidy _
      have hv1 := hv.fr (Fr.new (S := Nowhere) h.tidy (.cells [.int .i64 (Int.ofNat 0), .str (BS.mk 0 0), .int .i64 (Int.ofNat s.len)])) h.tidy (fun _ _ h => h)
      obtain ⟨σ2, a1, a2, a3, a4⟩ := app_one (E := []) (bytes := 32) hv1 f1.tidy (Atc_newB _) rfl rfl (grow3 (by omega))
      refine ⟨σ2, .sl (σ.next + 1) 0 (acc.length + 1) (.op 3), ?_, ?_, ?_⟩
      · unfold T24_1
        exact a1 _
      · refine .inr ⟨_, rfl, ?_, by omega, ?_⟩
        · rw [List.append_nil, tokCells_app]
          exact a2
        · rw [tokCells_len]; simp
      · exact f1.trans a4 (fun _ _ h => .inr h)
    | @cons _ w r' k ts' hr hk hst htl =>
      rw [decide_eq_true (by omega), condK_true]
      obtain ⟨σ1, t, g1, gt, g2⟩ := hT σ b i s r w r' k h hst
      subst gt
      obtain ⟨i1, x1⟩ := g2.at_
      have hk0 : eqF (Int.ofNat k) (Int.ofNat 0) = false := by rw [eqF_nat]; exact decide_eq_false (by omega)
      simp only [g1, callK_some_, rtTup_tup, rtCons_cons, rtInt_int, rtStr_str, rtNil_nil, hk0, condK_false]
      have hv1 : Sl σ1 3 acc.length v (tokCells acc) := hv.fr g2.fr h.tidy (fun c hc => hvb c hc)
      have f2 : Fr Nowhere σ1 (newB σ1 (.cells [.int .i64 (Int.ofNat k), .str (ofN w), .int .i64 (Int.ofNat i)])) := Fr.new x1.tidy _
      have hv2 := hv1.fr f2 x1.tidy (fun _ _ h => h)
      have hbn : b < σ.next := h.lt
      obtain ⟨σ3, a1, a2, a3, a4⟩ := app_one (E := []) (bytes := 32) hv2 f2.tidy (Atc_newB _) rfl rfl (grow3 (by omega))
      have f3 : Fr (fun c => Names v c) σ1 σ3 := (f2.mono (T := fun c => Names v c) (fun _ _ h => h.elim)).trans a4 (fun _ _ h => h)
      have x3 : Lx σ3 b s i1 r' := ⟨f3.at_ x1.1 x1.tidy (fun hc => hvb b hc rfl), x1.2.1, x1.big, a4.tidy⟩
      obtain ⟨σ4, k1, k2⟩ := hK σ3 b i1 s r' x3
      obtain ⟨i4, x4⟩ := k2.at_
      have hi : i = s.len - r.length := by omega
      have hlr := Step.lt hr hst
      have hsk := skipF_le N r'
      have hlen1 : (acc ++ [(k, w, i)]).length = acc.length + 1 := by simp
      have hcell : tokCells (acc ++ [(k, w, i)]) = tokCells acc ++ [.int .i64 (Int.ofNat k), .str (ofN w), .int .i64 (Int.ofNat i)] := by rw [tokCells_app]; rfl
      have hv4 : Sl σ4 3 (acc ++ [(k, w, i)]).length (.sl (newB σ1 (.cells [.int .i64 (Int.ofNat k), .str (ofN w), .int .i64 (Int.ofNat i)])).next 0 (acc.length + 1) (.op 3)) (tokCells (acc ++ [(k, w, i)])) := by
        refine .inr ⟨_, by rw [hlen1], ?_, by omega, by rw [tokCells_len]⟩
        have hne : (newB σ1 (.cells [.int .i64 (Int.ofNat k), .str (ofN w), .int .i64 (Int.ofNat i)])).next ≠ b := by
          have := g2.fr.le
          show σ1.next + 1 ≠ b
          omega
        rw [hcell]
        exact k2.fr.at_ a2 a4.tidy hne
      have hnb : ∀ c, Names (.sl (newB σ1 (.cells [.int .i64 (Int.ofNat k), .str (ofN w), .int .i64 (Int.ofNat i)])).next 0 (acc.length + 1) (.op 3)) c → c ≠ b := fun c hc => by
        have hc' : c = σ1.next + 1 := hc
        have := g2.fr.le
        omega
      obtain ⟨σ5, u, z1, z2, z3⟩ := toks_L hT hK s n (skipF N r') ts' (acc ++ [(k, w, i)]) σ4 b i4 _ (by simp at hn; omega) (by rw [hlen1]; omega) x4 htl hv4 hnb
      refine ⟨σ5, u, ?_, ?_, ?_⟩
      · rw [a1]
        show callK (D 40 [.ptr b 0] σ3) _ = _
        rw [k1]
        exact z1
      · rw [hi] at z2
        have e3 : (acc ++ [(k, w, s.len - r.length)]).length + ts'.length + 1 = acc.length + ((k, w, s.len - r.length) :: ts').length + 1 := by simp; omega
        rw [e3] at z2
        have e4 : acc ++ [(k, w, s.len - r.length)] ++ ts' ++ [(0, [], s.len)] = acc ++ ((k, w, s.len - r.length) :: ts') ++ [(0, [], s.len)] := by simp
        rw [e4] at z2
        exact z2
      · have q1 : Fr (fun c => c = b ∨ Names v c) σ σ1 := g2.fr.mono (fun _ _ h => .inl h)
        have q3 := q1.trans f3 (fun _ _ h => .inr h)
        have q4 := q3.trans k2.fr (fun _ _ h => .inl h)
        refine q4.trans z3 (fun c hc hh => ?_)
        rcases hh with hh | hh
        · exact .inl hh
        · have hc' : c = σ1.next + 1 := hh
          have := g2.fr.le
          omega
def SpTokens (N : Nat) (F : List V → H → Ans) : Prop := ∀ (σ : H) (s : BS) (ts : List (Nat × List Nat × Nat)), Tidy σ → s.len ≤ 8000 → Toks N s.len (skipF N s.nats) ts →
  ∃ σ' u, F [.str s] σ = some (.tup [u, .int .i64 (Int.ofNat 0), .int .i64 (Int.ofNat 0)], σ') ∧ Sl σ' 3 (ts.length + 1) u (tokCells (ts ++ [(0, [], s.len)])) ∧ Fr Nowhere σ σ'
theorem Toks.len {N len : Nat} {r : List Nat} {ts : List (Nat × List Nat × Nat)} (h : Toks N len r ts) : ts.length ≤ r.length := by
  induction h with
  | nil => exact Nat.le_refl _
  | @cons r w r' k ts hr hk hst _ ih =>
    have h1 := skipF_le N r'
    have h2 := Step.lt hr hst
    simp only [List.length_cons]; omega
theorem tokens_F (hT : SpToken (D 41)) (hK : SpSkip N (D 40)) (hN : 10000 < N) : SpTokens N (F24 [] D W N) := by
  intro σ s ts ht hs hts
  have x1 : Lx (newB σ (.cells [.str s, .int .i64 (Int.ofNat 0)])) σ.next s 0 s.nats := ⟨Atc_newB _, Rst.start s, by omega, (Fr.new (S := Nowhere) ht _).tidy⟩
  obtain ⟨σ2, k1, k2⟩ := hK _ σ.next 0 s s.nats x1
  obtain ⟨i2, x2⟩ := k2.at_
  have hl := hts.len
  have hk := skipF_le N s.nats
  rw [BS.length_nats] at hk
  obtain ⟨σ3, u, z1, z2, z3⟩ := toks_L (W := W) hT hK s N (skipF N s.nats) ts [] σ2 σ.next i2 .nils (by omega) (by simp; omega) x2 hts (Sl.nil σ2 3) (fun _ h => h.elim)
  refine ⟨σ3, u, ?_, ?_, ?_⟩
  · show T24_0 [] D W (L24_2 [] D W N N) s σ = _
    simp only [T24_0, ltF_nat]
    rw [decide_eq_false (by omega), condK_false]
    show callK (D 40 [.ptr σ.next 0] (newB σ (.cells [.str s, .int .i64 (Int.ofNat 0)]))) _ = _
    rw [k1]
    exact z1
  · have : ([] : List (Nat × List Nat × Nat)).length + ts.length + 1 = ts.length + 1 := by simp
    rw [this] at z2
    exact z2
  · have q1 : Fr Nowhere σ (newB σ (.cells [.str s, .int .i64 (Int.ofNat 0)])) := Fr.new ht _
    have q2 := q1.trans k2.fr (fun c hc h => by have h : c = σ.next := h; omega)
    exact q2.trans z3 (fun c hc h => by
      rcases h with h | h
      · omega
      · exact h.elim)
end
end
end Go.Proofs.YtdfgcokapncaiaaGreatDoor
set_option linter.all false
namespace Go.Proofs.YtdfgcokapncaiaaGreatDoor
open Go Go.Og
noncomputable section
def digsF : Nat → Nat → List Nat
  | 0, v => [48 + v]
  | k + 1, v => match Nat.blt v 10 with
    | true => [48 + v]
    | false => digsF k (v / 10) ++ [48 + v % 10]
theorem dval_snoc (l : List Nat) (c : Nat) : dval (l ++ [c]) = 10 * dval l + (c - 48) := by
  unfold dval; rw [dvalA_append]; rfl
theorem digsF_ok : ∀ (k v : Nat), v < 10 ^ (k + 1) → Digs (digsF k v) ∧ dval (digsF k v) = v ∧ 0 < (digsF k v).length ∧ (digsF k v).length ≤ k + 1 ∧ (v < 10 → (digsF k v).length = 1) ∧ (0 < v → (digsF k v).getD 0 0 ≠ 48)
  | 0, v, h => by
    have h : v < 10 := by simpa using h
    refine ⟨?_, ?_, by simp [digsF], by simp [digsF], fun _ => rfl, fun hv => by simp [digsF]; omega⟩
    · intro c hc
      simp [digsF] at hc; omega
    · show 10 * 0 + (48 + v - 48) = v
      omega
  | k + 1, v, h => by
    by_cases hv : v < 10
    · have e : digsF (k + 1) v = [48 + v] := by
        show (match Nat.blt v 10 with | true => _ | false => _) = _
        rw [show Nat.blt v 10 = true by simpa [Nat.blt_eq] using hv]
      rw [e]
      refine ⟨?_, ?_, by simp, by simp, fun _ => rfl, fun h => by simp; omega⟩
      · intro c hc
        simp at hc; omega
      · show 10 * 0 + (48 + v - 48) = v
        omega
    · have e : digsF (k + 1) v = digsF k (v / 10) ++ [48 + v % 10] := by
        show (match Nat.blt v 10 with | true => _ | false => _) = _
        rw [show Nat.blt v 10 = false by rw [Bool.eq_false_iff]; simpa [Nat.blt_eq] using hv]
      have hk : v / 10 < 10 ^ (k + 1) := by
        rw [Nat.div_lt_iff_lt_mul (by decide)]
        rw [Nat.pow_succ] at h; exact h
      obtain ⟨h1, h2, h3, h4, h5, h6⟩ := digsF_ok k (v / 10) hk
      rw [e]
      refine ⟨?_, ?_, by simp, by simp; omega, fun h => absurd h hv, fun _ => ?_⟩
      · intro c hc
        rcases List.mem_append.1 hc with hc | hc
        · exact h1 c hc
        · simp at hc; omega
      · rw [dval_snoc, h2]; omega
      · have h7 := h6 (by omega)
        cases hd : digsF k (v / 10) with
        | nil => rw [hd] at h3; simp at h3
        | cons c l => rw [hd] at h7; exact h7
end
end Go.Proofs.YtdfgcokapncaiaaGreatDoor
set_option linter.all false
set_option maxRecDepth 100000
namespace Go.Proofs.YtdfgcokapncaiaaGreatDoor
open Go Go.Og
noncomputable section
def numC (v : Int) : List Nat := match v with
  | .ofNat m => digsF 19 m
  | .negSucc m => 45 :: digsF 19 (m + 1)
def In64 (v : Int) : Prop := -9223372036854775808 ≤ v ∧ v ≤ 9223372036854775807
theorem numC_ok {v : Int} (h : In64 v) : NumOk (numC v) v ∧ (numC v).length ≤ 21 ∧ (∀ neg ds, numC v = numT neg ds → Digs ds → ds.getD 0 0 = 48 → ds.length = 1 ∧ neg = false) := by
  obtain ⟨h1, h2⟩ := h
  cases v with
  | ofNat m =>
    simp only [Int.ofNat_eq_natCast] at h1 h2
    obtain ⟨d1, d2, d3, d4, d5, d6⟩ := digsF_ok 19 m (by show m < 100000000000000000000; omega)
    have hne : digsF 19 m ≠ [] := fun h => by rw [h] at d3; simp at d3
    refine ⟨⟨⟨false, digsF 19 m, rfl, d1, hne, ?_⟩, ?_, ?_, ?_⟩, ?_, ?_⟩
    · simp only [d2]; rfl
    · simp only [Int.ofNat_eq_natCast]; omega
    · simp only [Int.ofNat_eq_natCast]; omega
    · show (digsF 19 m).length ≤ _; omega
    · show (digsF 19 m).length ≤ _; omega
    · intro neg ds he hd h48
      cases neg with
      | true =>
        exfalso
        have he : digsF 19 m = 45 :: ds := he
        have := d1 45 (by rw [he]; simp)
        omega
      | false =>
        have he : digsF 19 m = ds := he
        subst he
        refine ⟨?_, rfl⟩
        by_cases hm : 0 < m
        · exact absurd h48 (d6 hm)
        · exact d5 (by omega)
  | negSucc m =>
    obtain ⟨d1, d2, d3, d4, d5, d6⟩ := digsF_ok 19 (m + 1) (by show m + 1 < 100000000000000000000; omega)
    have hne : digsF 19 (m + 1) ≠ [] := fun h => by rw [h] at d3; simp at d3
    refine ⟨⟨⟨true, digsF 19 (m + 1), rfl, d1, hne, ?_⟩, ?_, ?_, ?_⟩, ?_, ?_⟩
    · simp only [d2]; omega
    · omega
    · omega
    · show (digsF 19 (m + 1)).length + 1 ≤ _; omega
    · show (digsF 19 (m + 1)).length + 1 ≤ _; omega
    · intro neg ds he hd h48
      exfalso
      cases neg with
      | true =>
        have he : 45 :: digsF 19 (m + 1) = 45 :: ds := he
        have he : digsF 19 (m + 1) = ds := by injection he
        subst he
        exact d6 (by omega) h48
      | false =>
        have he : 45 :: digsF 19 (m + 1) = ds := he
        have := hd 45 (by rw [← he]; simp)
        omega
end
end Go.Proofs.YtdfgcokapncaiaaGreatDoor
set_option linter.all false
set_option maxRecDepth 100000
namespace Go.Proofs.YtdfgcokapncaiaaGreatDoor
open Go Go.Og
noncomputable section

abbrev Tk := Nat × List Nat × Nat
def tokV (t : Tk) : V := .agg [.int .i64 (Int.ofNat t.1), .str (ofN t.2.1), .int .i64 (Int.ofNat t.2.2)]
def pcells (tb n j : Nat) (m : List V) : List V := .sl tb 0 n (.op 3) :: .int .i64 (Int.ofNat j) :: m
structure Px (σ : H) (p tb : Nat) (ts : List Tk) (j : Nat) (m : List V) : Prop where
  at_ : Atc σ p (pcells tb ts.length j m)
  tok : Atc σ tb (tokCells ts)
  ne : tb ≠ p
  tidy : Tidy σ
  big : ts.length ≤ 10001
  last : ∀ i t, ts[i]? = some t → t.1 ≠ 0 → i + 1 < ts.length
def pset (σ : H) (p tb : Nat) (ts : List Tk) (j : Nat) (m : List V) : H := setF σ p (.cells (pcells tb ts.length j m))
section
variable {σ σ' : H} {p tb j j' : Nat} {ts : List Tk} {m m' : List V} {S : Nat → Prop} {t : Tk}
theorem Px.lt (h : Px σ p tb ts j m) : p < σ.next := h.at_.lt h.tidy
theorem Px.tlt (h : Px σ p tb ts j m) : tb < σ.next := h.tok.lt h.tidy
theorem Px.set (h : Px σ p tb ts j m) (j' : Nat) (m' : List V) : Px (pset σ p tb ts j' m') p tb ts j' m' := by
  have f := Fr.set h.tidy h.lt (.cells (pcells tb ts.length j' m'))
  exact ⟨Atc_setF _, f.at_ h.tok h.tidy h.ne, h.ne, f.tidy, h.big, h.last⟩
theorem Px.setFr (h : Px σ p tb ts j m) (j' : Nat) (m' : List V) : Fr (fun k => k = p) σ (pset σ p tb ts j' m') := Fr.set h.tidy h.lt _
theorem Px.fr (h : Px σ p tb ts j m) (f : Fr S σ σ') (h1 : ¬ S p) (h2 : ¬ S tb) : Px σ' p tb ts j m :=
  ⟨f.at_ h.at_ h.tidy h1, f.at_ h.tok h.tidy h2, h.ne, f.tidy, h.big, h.last⟩
theorem Px.h0 (h : Px σ p tb ts j m) (κ : V → Ans) : ldK [] σ p 0 κ = κ (.sl tb 0 ts.length (.op 3)) := ldK_at h.at_ rfl
theorem Px.h1 (h : Px σ p tb ts j m) (κ : V → Ans) : ldK [] σ p (Nat.add 0 1) κ = κ (.int .i64 (Int.ofNat j)) := ldK_at h.at_ rfl
theorem tok_split : ∀ {ts : List Tk} {j : Nat} {t : Tk}, ts[j]? = some t → ∃ a b, ts = a ++ t :: b ∧ a.length = j := by
  intro ts j t h
  obtain ⟨hj, hg⟩ := List.getElem?_eq_some_iff.1 h
  refine ⟨ts.take j, ts.drop (j + 1), ?_, by rw [List.length_take]; omega⟩
  have h1 := (List.take_append_drop j ts).symm
  rw [List.drop_eq_getElem_cons hj, hg] at h1
  exact h1
theorem tok_get (h : ts[j]? = some t) : ((tokCells ts).drop (Nat.add 0 (Nat.mul j 3))).take 3 = [.int .i64 (Int.ofNat t.1), .str (ofN t.2.1), .int .i64 (Int.ofNat t.2.2)] := by
  obtain ⟨a, b, rfl, hl⟩ := tok_split h
  have e : Nat.add 0 (Nat.mul j 3) = (tokCells a).length := by rw [tokCells_len, hl]; show 0 + j * 3 = _; omega
  rw [e, tokCells_app, List.drop_left]
  rfl
theorem Px.get (h : Px σ p tb ts j m) (ht : ts[j]? = some t) (κ : List V → Ans) :
    iaddrSK 3 (.sl tb 0 ts.length (.op 3)) (Int.ofNat j) (fun b4 o5 => ldnK [] σ b4 o5 3 κ) = κ [.int .i64 (Int.ofNat t.1), .str (ofN t.2.1), .int .i64 (Int.ofNat t.2.2)] := by
  obtain ⟨hj, _⟩ := List.getElem?_eq_some_iff.1 ht
  show chk (Nat.blt j ts.length) _ = _
  rw [chk_true (by simp [Nat.blt_eq]; exact hj)]
  have hl : Nat.add 0 (Nat.mul j 3) + 3 ≤ (tokCells ts).length := by rw [tokCells_len]; show 0 + j * 3 + 3 ≤ _; omega
  show ldnK [] σ tb (Nat.add 0 (Nat.mul j 3)) 3 κ = _
  rw [ldnK_at h.tok hl, tok_get ht]
theorem spl_pc (tb n j j' : Nat) (m : List V) : spl (pcells tb n j m) (Nat.add 0 1) [.int .i64 (Int.ofNat j')] = pcells tb n j' m := by
  cases m <;> rfl
end

def SpSPeek (F : List V → H → Ans) : Prop := ∀ (σ : H) (p tb j : Nat) (ts : List Tk) (m : List V) (t : Tk), Px σ p tb ts j m → ts[j]? = some t → F [.ptr p 0] σ = some (tokV t, σ)
def SpNext (F : List V → H → Ans) : Prop := ∀ (σ : H) (p tb j : Nat) (ts : List Tk) (m : List V) (t : Tk), Px σ p tb ts j m → ts[j]? = some t →
  F [.ptr p 0] σ = some (tokV t, match t.1 with | 0 => σ | _ + 1 => pset σ p tb ts (j + 1) m)
def stB (t : Tk) (s : BS) : Bool := (eqF (Int.ofNat t.1) (Int.ofNat 5) || eqF (Int.ofNat t.1) (Int.ofNat 6)) && BS.beq (ofN t.2.1) s
def SpStands (F : List V → H → Ans) : Prop := ∀ (σ : H) (p tb j : Nat) (ts : List Tk) (m : List V) (t : Tk) (s : BS), Px σ p tb ts j m → ts[j]? = some t → F [.ptr p 0, .str s] σ = some (.bool (stB t s), σ)
def SpIs (F : List V → H → Ans) : Prop := ∀ (σ : H) (p tb j : Nat) (ts : List Tk) (m : List V) (t : Tk) (s : BS), Px σ p tb ts j m → ts[j]? = some t →
  F [.ptr p 0, .str s] σ = some (.bool (stB t s), match stB t s with | true => pset σ p tb ts (j + 1) m | false => σ)
section
variable {D : Den} {W : DrawFn} {N : Nat}
theorem speek_F : SpSPeek (F45 [] D W N) := by
  intro σ p tb j ts m t h ht
  simp only [F45, J45_0, T45_0, rtCons_cons, rtPtr_ptr, rtNil_nil, h.h0, h.h1, rtInt_int]
  rw [h.get ht]
  simp only [rtCons_cons, rtInt_int, rtStr_str, rtNil_nil, tokV]
theorem next_F : SpNext (F74 [] D W N) := by
  intro σ p tb j ts m t h ht
  simp only [F74, J74_0, T74_0, rtCons_cons, rtPtr_ptr, rtNil_nil, h.h0, h.h1, rtInt_int]
  rw [h.get ht]
  simp only [rtCons_cons, rtInt_int, rtStr_str, rtNil_nil]
  have hj := (List.getElem?_eq_some_iff.1 ht).1
  have hb := h.big
  cases h0 : t.1 with
  | zero =>
    show some (V.agg [.int .i64 (Int.ofNat 0), _, _], σ) = some (tokV t, σ)
    unfold tokV
    rw [h0]
  | succ k =>
    have e : eqF (Int.ofNat (k + 1)) (Int.ofNat 0) = false := by rw [eqF_nat]; exact decide_eq_false (by omega)
    rw [e]
    simp only [Bool.not_false, condK_true]
    rw [addF_nat (by omega), stK_at h.at_ rfl]
    show some (V.agg [.int .i64 (Int.ofNat (k + 1)), _, _], setF σ p (.cells (spl (pcells tb ts.length j m) (Nat.add 0 1) [.int .i64 (Int.ofNat (j + 1))]))) = some (tokV t, _)
    rw [spl_pc]
    unfold tokV
    rw [h0]
    rfl
theorem stands_F (hP : SpSPeek (D 45)) : SpStands (F44 [] D W N) := by
  intro σ p tb j ts m t s h ht
  simp only [F44, J44_0, T44_0, rtCons_cons, rtStr_str, rtNil_nil, hP σ p tb j ts m t h ht, callK_some_, tokV, rtAgg_agg, rtInt_int, joinB_, stB]
  cases eqF (Int.ofNat t.1) (Int.ofNat 5) <;> cases eqF (Int.ofNat t.1) (Int.ofNat 6) <;> cases BS.beq (ofN t.2.1) s <;> rfl
theorem is_F (hS : SpStands (D 44)) (hX : SpNext (D 74)) : SpIs (F75 [] D W N) := by
  intro σ p tb j ts m t s h ht
  simp only [F75, J75_0, T75_0, rtCons_cons, rtStr_str, rtNil_nil, hS σ p tb j ts m t s h ht, callK_some_, rtBool_bool]
  cases hb : stB t s
  · rfl
  · have hk : ∃ k, t.1 = k + 1 := by
      unfold stB at hb
      rw [eqF_nat, eqF_nat] at hb
      simp only [Bool.and_eq_true, Bool.or_eq_true, decide_eq_true_eq] at hb
      exact ⟨t.1 - 1, by omega⟩
    obtain ⟨k, hk⟩ := hk
    have hx := hX σ p tb j ts m t h ht
    rw [hk] at hx
    simp only [Bool.not_true, condK_false, hx, callK_some_, tokV, rtAgg_agg, rtCons_cons, rtInt_int, rtStr_str, rtNil_nil]
end

/-! ### want: what is asked for stands there -/
def Stand (ts : List Tk) : Nat → List BS → Prop
  | _, [] => True
  | j, s :: l => (∃ t, ts[j]? = some t ∧ stB t s = true) ∧ Stand ts (j + 1) l
def SpWant (F : List V → H → Ans) : Prop := ∀ (σ : H) (p tb j sb : Nat) (ts : List Tk) (m : List V) (l : List BS), Px σ p tb ts j m → Atc σ sb (l.map .str) → sb ≠ p → Stand ts j l → l.length ≤ 5 →
  ∃ σ', F [.ptr p 0, .sl sb 0 l.length (.ex l.length)] σ = some (.bool true, σ') ∧ Px σ' p tb ts (j + l.length) m ∧ Fr (fun k => k = p) σ σ'
theorem Stand.get : ∀ {l : List BS} {ts : List Tk} {j q : Nat} {s : BS}, Stand ts j l → l[q]? = some s → ∃ t, ts[j + q]? = some t ∧ stB t s = true
  | [], _, _, _, _, _, h => by simp at h
  | a :: l, ts, j, 0, s, hs, h => by simp at h; subst h; exact hs.1
  | a :: l, ts, j, q + 1, s, hs, h => by
    have := hs.2.get (q := q) (by simpa using h)
    rw [show j + (q + 1) = j + 1 + q by omega]; exact this
section
variable {D : Den} {W : DrawFn} {N : Nat}
theorem want_L (hI : SpIs (D 75)) (p tb j0 sb : Nat) (ts : List Tk) (m : List V) (l : List BS) (hl5 : l.length ≤ 5) (hst : Stand ts j0 l) (hne : sb ≠ p) : ∀ (k q n : Nat) (σ : H), q + k = l.length → k < n → Px σ p tb ts (j0 + q) m → Atc σ sb (l.map .str) →
    ∃ σ', L43_2 [] D W N n p 0 (.sl sb 0 l.length (.ex l.length)) (Int.ofNat l.length) (Int.ofNat q) σ = some (.bool true, σ') ∧ Px σ' p tb ts (j0 + l.length) m ∧ Fr (fun k => k = p) σ σ'
  | k, q, 0, _, _, hn, _, _ => absurd hn (Nat.not_lt_zero _)
  | 0, q, n + 1, σ, hq, hn, h, hs => by
    have : q = l.length := by omega
    subst this
    refine ⟨σ, ?_, h, Fr.refl h.tidy⟩
    show T43_2 [] D W (J43_1 [] D W N) (L43_2 [] D W N n) p 0 (.sl sb 0 l.length (.ex l.length)) (Int.ofNat l.length) (Int.ofNat l.length) σ = _
    simp only [T43_2, ltF_nat]
    rw [decide_eq_false (by omega), condK_false]
    rfl
  | k + 1, q, n + 1, σ, hq, hn, h, hs => by
    have hql : q < l.length := by omega
    obtain ⟨t, ht, hb⟩ := hst.get (List.getElem?_eq_getElem hql)
    have hia : ∀ κ : Nat → Nat → Ans, iaddrSK 1 (.sl sb 0 l.length (.ex l.length)) (Int.ofNat q) κ = κ sb (Nat.add 0 (Nat.mul q 1)) := fun κ => by
      show chk (Nat.blt q l.length) _ = _
      exact chk_true (by simp [Nat.blt_eq]; omega)
    have hld : ∀ κ : V → Ans, ldK [] σ sb (Nat.add 0 (Nat.mul q 1)) κ = κ (.str l[q]) := fun κ => ldK_get hs (by
      have : Nat.add 0 (Nat.mul q 1) = q := by show 0 + q * 1 = q; omega
      rw [this, List.getElem?_map, List.getElem?_eq_getElem hql]; rfl)
    have hi := hI σ p tb (j0 + q) ts m t l[q] h ht
    rw [hb] at hi
    simp only [] at hi
    show ∃ σ', T43_2 [] D W (J43_1 [] D W N) (L43_2 [] D W N n) p 0 (.sl sb 0 l.length (.ex l.length)) (Int.ofNat l.length) (Int.ofNat q) σ = _ ∧ _
    simp only [T43_2, ltF_nat, hia, hld, rtStr_str, hi, callK_some_, rtBool_bool]
    rw [decide_eq_true (by omega), condK_true]
    simp only [Bool.not_true, condK_false]
    rw [addF_nat (by omega)]
    have f := h.setFr (j0 + q + 1) m
    obtain ⟨σ', g1, g2, g3⟩ := want_L hI p tb j0 sb ts m l hl5 hst hne k (q + 1) n (pset σ p tb ts (j0 + q + 1) m) (by omega) (by omega) (h.set (j0 + q + 1) m) (f.at_ hs h.tidy hne)
    exact ⟨σ', g1, g2, f.trans g3 (fun _ _ h => h)⟩
theorem want_F (hI : SpIs (D 75)) (hN : 10000 < N) : SpWant (F43 [] D W N) := by
  intro σ p tb j sb ts m l h hs hne hst hl5
  obtain ⟨σ', g1, g2, g3⟩ := want_L (N := N) (W := W) hI p tb j sb ts m l hl5 hst hne l.length 0 N σ (by omega) (by omega) h hs
  exact ⟨σ', g1, g2, g3⟩
end

/-! ### of, number -/
def SpOf (F : List V → H → Ans) : Prop := ∀ (σ : H) (p tb j : Nat) (ts : List Tk) (m : List V) (t : Tk), Px σ p tb ts j m → ts[j]? = some t →
  ∃ σ', F [.ptr p 0, .int .i64 (Int.ofNat t.1)] σ = some (.tup [tokV t, .bool true], σ') ∧ Px σ' p tb ts (match t.1 with | 0 => j | _ + 1 => j + 1) m ∧ Fr (fun k => k = p) σ σ'
def SpPNum (F : List V → H → Ans) : Prop := ∀ (σ : H) (p tb j : Nat) (ts : List Tk) (m : List V) (w : List Nat) (a : Nat) (v : Int), Px σ p tb ts j m → ts[j]? = some (3, w, a) → NumOk w v →
  ∃ σ', F [.ptr p 0] σ = some (.tup [.int .i64 v, tokV (3, w, a), .bool true], σ') ∧ Px σ' p tb ts (j + 1) m ∧ Fr (fun k => k = p) σ σ'
section
variable {D : Den} {W : DrawFn} {N : Nat}
theorem of_F (hP : SpSPeek (D 45)) (hX : SpNext (D 74)) : SpOf (F42 [] D W N) := by
  intro σ p tb j ts m t h ht
  let z : Blk := .cells [.int .i64 (Int.ofNat 0), .str ⟨0, 0⟩, .int .i64 (Int.ofNat 0)]
  have f1 : Fr Nowhere σ (newB σ z) := Fr.new h.tidy _
  have h1 := h.fr f1 (fun h => h) (fun h => h)
  have f2 : Fr Nowhere (newB σ z) (newB (newB σ z) z) := Fr.new h1.tidy _
  have h2 := h1.fr f2 (fun h => h) (fun h => h)
  have a1 : Atc (newB σ z) σ.next [.int .i64 (Int.ofNat 0), .str ⟨0, 0⟩, .int .i64 (Int.ofNat 0)] := Atc_newB _
  have a2 : Atc (newB (newB σ z) z) (σ.next + 1) [.int .i64 (Int.ofNat 0), .str ⟨0, 0⟩, .int .i64 (Int.ofNat 0)] := Atc_newB _
  have b1 : Atc (newB (newB σ z) z) σ.next [.int .i64 (Int.ofNat 0), .str ⟨0, 0⟩, .int .i64 (Int.ofNat 0)] := f2.at_ a1 h1.tidy (fun h => h)
  have lp := h.lt; have ltb := h.tlt
  let tc : List V := [.int .i64 (Int.ofNat t.1), .str (ofN t.2.1), .int .i64 (Int.ofNat t.2.2)]
  let s15 : H := setF (newB (newB σ z) z) (σ.next + 1) (.cells tc)
  have f3 : Fr (fun k => k = σ.next + 1) (newB (newB σ z) z) s15 := Fr.set h2.tidy (a2.lt h2.tidy) _
  have h3 : Px s15 p tb ts j m := h2.fr f3 (by omega) (by omega)
  have a3 : Atc s15 (σ.next + 1) tc := Atc_setF _
  have b3 : Atc s15 σ.next [.int .i64 (Int.ofNat 0), .str ⟨0, 0⟩, .int .i64 (Int.ofNat 0)] := f3.at_ b1 h2.tidy (by omega)
  let s27 : H := match t.1 with | 0 => s15 | _ + 1 => pset s15 p tb ts (j + 1) m
  have h4 : Px s27 p tb ts (match t.1 with | 0 => j | _ + 1 => j + 1) m := by
    show Px (match t.1 with | 0 => s15 | _ + 1 => pset s15 p tb ts (j + 1) m) p tb ts _ m
    cases t.1
    · exact h3
    · exact h3.set (j + 1) m
  have f4 : Fr (fun k => k = p) s15 s27 := by
    show Fr (fun k => k = p) s15 (match t.1 with | 0 => s15 | _ + 1 => pset s15 p tb ts (j + 1) m)
    cases t.1
    · exact Fr.refl h3.tidy
    · exact h3.setFr (j + 1) m
  have b4 : Atc s27 σ.next [.int .i64 (Int.ofNat 0), .str ⟨0, 0⟩, .int .i64 (Int.ofNat 0)] := f4.at_ b3 h3.tidy (by omega)
  have f5 : Fr (fun k => k = σ.next) s27 (setF s27 σ.next (.cells tc)) := Fr.set h4.tidy (b4.lt h4.tidy) _
  refine ⟨setF s27 σ.next (.cells tc), ?_, h4.fr f5 (by omega) (by omega), ?_⟩
  · show T42_0 [] D W p 0 (Int.ofNat t.1) σ = _
    unfold T42_0
    show callK (D 45 [.ptr p 0] (newB σ z)) _ = _
    rw [hP _ p tb j ts m t h1 ht]
    simp only [callK_some_, tokV, rtAgg_agg, rtCons_cons, rtInt_int, rtStr_str, rtNil_nil]
    show stK 3 (σ.next + 1) 0 _ (newB (newB σ z) z) _ = _
    rw [stK_at a2 rfl]
    show ldK [] s15 (σ.next + 1) 0 _ = _
    rw [ldK_at a3 rfl]
    simp only [rtInt_int]
    rw [show eqF (Int.ofNat t.1) (Int.ofNat t.1) = true by rw [eqF_nat]; exact decide_eq_true rfl]
    simp only [Bool.not_true, condK_false]
    have hx := hX s15 p tb j ts m t h3 ht
    have hx' : D 74 [.ptr p 0] s15 = some (tokV t, s27) := hx
    show callK (D 74 [.ptr p 0] s15) _ = _
    rw [hx']
    simp only [callK_some_, tokV, rtAgg_agg, rtCons_cons, rtInt_int, rtStr_str, rtNil_nil]
    show stK 3 σ.next 0 _ s27 _ = _
    rw [stK_at b4 rfl]
    have a5 : Atc (setF s27 σ.next (.cells tc)) σ.next tc := Atc_setF _
    show ldnK [] (setF s27 σ.next (.cells tc)) σ.next 0 3 _ = _
    rw [ldnK_at a5 (by show 0 + 3 ≤ 3; omega)]
    rfl
  · have q1 : Fr (fun k => k = p) σ (newB (newB σ z) z) := (f1.trans f2 (fun _ _ h => h)).mono (fun _ _ h => h.elim)
    have q2 := q1.trans f3 (fun c hc h => by have h : c = σ.next + 1 := h; omega)
    have q3 := q2.trans f4 (fun _ _ h => h)
    exact q3.trans f5 (fun c hc h => by have h : c = σ.next := h; omega)
theorem pnum_F (hO : SpOf (D 42)) (hI : SpInt (D 101)) : SpPNum (F158 [] D W N) := by
  intro σ p tb j ts m w a v h ht hw
  obtain ⟨σ1, g1, g2, g3⟩ := hO σ p tb j ts m (3, w, a) h ht
  obtain ⟨σ2, k1, k2⟩ := hI σ1 w v g2.tidy hw
  have g1' : D 42 [.ptr p 0, .int .i64 (Int.ofNat 3)] σ = some (.tup [tokV (3, w, a), .bool true], σ1) := g1
  refine ⟨σ2, ?_, g2.fr k2 (fun h => h) (fun h => h), g3.trans k2 (fun _ _ h => h.elim)⟩
  simp only [F158, J158_0, T158_0, rtCons_cons, rtNil_nil, g1', callK_some_, rtTup_tup, tokV, rtAgg_agg, rtInt_int, rtStr_str, rtBool_bool, Bool.not_true, condK_false, k1]
end
end
end Go.Proofs.YtdfgcokapncaiaaGreatDoor
set_option linter.all false
set_option maxRecDepth 100000
namespace Go.Proofs.YtdfgcokapncaiaaGreatDoor
open Go Go.Og
noncomputable section
theorem mk_new {σ : H} (ht : Tidy σ) (z : List V) : ∃ σ1, newB σ (.cells z) = σ1 ∧ Fr Nowhere σ σ1 ∧ Atc σ1 σ.next z ∧ σ1.next = σ.next + 1 := ⟨_, rfl, Fr.new ht _, Atc_newB _, rfl⟩
theorem mk_set {σ : H} {b : Nat} {l : List V} (ht : Tidy σ) (h : Atc σ b l) (z : List V) : ∃ σ1, setF σ b (.cells z) = σ1 ∧ Fr (fun k => k = b) σ σ1 ∧ Atc σ1 b z := ⟨_, rfl, Fr.set ht (h.lt ht) _, Atc_setF _⟩
def rest7 (v0 v1 v2 v3 v4 : V) (a e : Nat) : List V := [v0, v1, v2, v3, v4, .int .i64 (Int.ofNat a), .int .i64 (Int.ofNat e)]
section
variable {D : Den} {W : DrawFn} {N : Nat}
/-! ### the tag -/
/-- What a tag ahead of a type comes to: where it stands behind it, the mark, whether it is right, the error. -/
structure MarkR where
  ok : Bool
  n : Int
  mode : Nat
  j' : Nat
  a : Nat
  e : Nat
def MarkR.cells (r : MarkR) : List V := match r.ok with
  | true => [.bool true, .int .i64 r.n, .int .i64 (Int.ofNat r.mode)]
  | false => [.bool false, .int .i64 (Int.ofNat 0), .int .i64 (Int.ofNat 0)]
/-! ### the type -/
def zero16 : List V := [.int .i64 (Int.ofNat 0), .str ⟨0, 0⟩, .bool false, .int .i64 (Int.ofNat 0), .int .i64 (Int.ofNat 0), .bool false, .bool false, .bool false, .bool false, .int .i64 (Int.ofNat 0), .int .i64 (Int.ofNat 0), .nils, .nils, .int .i64 (Int.ofNat 0), .bool false, .int .i64 (Int.ofNat 0)]
def null16 (k : Nat) (n : Int) (mode : Nat) : List V := [.int .i64 (Int.ofNat k), .str ⟨0, 0⟩, .bool true, .int .i64 n, .int .i64 (Int.ofNat mode), .bool false, .bool false, .bool false, .bool false, .int .i64 (Int.ofNat 0), .int .i64 (Int.ofNat 0), .nils, .nils, .int .i64 (Int.ofNat 0), .bool false, .int .i64 (Int.ofNat 0)]
def MarkR.node (r : MarkR) : List V := match r.ok with
  | true => null16 4 r.n r.mode
  | false => zero16
def MarkR.j2 (r : MarkR) : Nat := match r.ok with
  | true => r.j' + 1
  | false => r.j'
end
end
end Go.Proofs.YtdfgcokapncaiaaGreatDoor
set_option linter.all false
set_option maxRecDepth 100000
namespace Go.Proofs.YtdfgcokapncaiaaGreatDoor
open Go Go.Og
noncomputable section
section
variable {D : Den} {W : DrawFn} {N : Nat}
end
end
end Go.Proofs.YtdfgcokapncaiaaGreatDoor
set_option linter.all false
set_option maxRecDepth 100000
namespace Go.Proofs.YtdfgcokapncaiaaGreatDoor
open Go Go.Og
noncomputable section
theorem store_of {D : Den} {x v : AO} {e : Env} {b off nx : Nat} {h : List (Nat × Blk)} {c : List V} (hx : opv e x = .ptr b off) (hl : Go.Og.look h b = some (.cells c)) (hc : (Nat.beq (opv e v).cells.length 1 && Nat.ble (off + 1) c.length && allOne (opv e v).cells) = true) :
    den1 [] D (.store 1 x v) e ⟨nx, h⟩ = some (.dead, ⟨nx, repl h b (.cells (spl c off (opv e v).cells))⟩) := by
  show aop [] (.store 1 x v) e ⟨nx, h⟩ = _
  show aopK [] (.store 1 x v) e ⟨nx, h⟩ = _
  unfold aopK
  simp only [hx, hl]
  rw [if_pos hc]
  rfl
theorem app_of {D : Den} {el esz bytes : Nat} {s x : AO} {e : Env} {xb nx : Nat} {h : List (Nat × Blk)} {c : List V} (hs : opv e s = .nils) (hx : opv e x = .sl xb 0 1 (.ex 1)) (hl : Go.Og.look h xb = some (.cells c)) (hc : c.length = esz) (hg : growable 1 bytes = true) :
    den1 [] D (.append el esz bytes s x) e ⟨nx, h⟩ = some (.sl nx 0 1 (.op esz), ⟨nx + 1, (nx, .cells c) :: h⟩) := by
  show aopK [] (.append el esz bytes s x) e ⟨nx, h⟩ = _
  unfold aopK
  simp only [hs, hx]
  unfold appendV
  have hsc : srcCells [] ⟨nx, h⟩ esz (.sl xb 0 1 (.ex 1)) = some (1, c) := by
    show (rdN [] ⟨nx, h⟩ xb 0 (1 * esz)).map _ = _
    unfold rdN rd
    simp only [hl]
    rw [show Nat.ble (0 + 1 * esz) c.length = true from ble_of (by omega)]
    simp only [if_true, Option.map_some, List.drop_zero]
    rw [List.take_of_length_le (by omega)]
  rw [hsc]
  simp only []
  rw [if_neg (by decide), hg]
  rfl
section
variable {D : Den}
end
end
end Go.Proofs.YtdfgcokapncaiaaGreatDoor
set_option linter.all false
set_option maxRecDepth 100000
namespace Go.Proofs.YtdfgcokapncaiaaGreatDoor
open Go Go.Og
noncomputable section
section
variable {D : Den} {W : DrawFn} {N : Nat}
/-! ### the module -/
/-- The signs ahead of the type, and those behind it. -/
structure ModT (ts : List Tk) (r : MarkR) : Prop where
  t0 : ∃ t, ts[0]? = some t ∧ t.1 = 1
  t1 : ∃ t, ts[1]? = some t ∧ stB t (BS.mk 11 100710650190388740279911748) = true
  t2 : ∃ t, ts[2]? = some t ∧ stB t (BS.mk 3 4012602) = true ∧ stB t (BS.mk 8 6073459554577832005) = false ∧ stB t (BS.mk 8 6073459554577829193) = false ∧ stB t (BS.mk 9 1241215773001651606849) = false
  t3 : ∃ t, ts[3]? = some t ∧ stB t (BS.mk 5 336236856642) = true
  t4 : ∃ t, ts[4]? = some t ∧ t.1 = 1
  te : r.ok = true → ∃ t u, ts[r.j2]? = some t ∧ t.1 = 5 ∧ stB t (BS.mk 3 4476485) = true ∧ ts[r.j2 + 1]? = some u ∧ u.1 = 0 ∧ r.a = 0 ∧ r.e = 0
end
end
end Go.Proofs.YtdfgcokapncaiaaGreatDoor
set_option linter.all false
set_option maxRecDepth 100000
namespace Go.Proofs.YtdfgcokapncaiaaGreatDoor
open Go Go.Og
noncomputable section
theorem store_n {D : Den} {n : Nat} {x v : AO} {e : Env} {b off nx : Nat} {h : List (Nat × Blk)} {c : List V} (hx : opv e x = .ptr b off) (hl : Go.Og.look h b = some (.cells c)) (hc : (Nat.beq (opv e v).cells.length n && Nat.ble (off + n) c.length && allOne (opv e v).cells) = true) :
    den1 [] D (.store n x v) e ⟨nx, h⟩ = some (.dead, ⟨nx, repl h b (.cells (spl c off (opv e v).cells))⟩) := by
  show aopK [] (.store n x v) e ⟨nx, h⟩ = _
  unfold aopK
  simp only [hx, hl]
  rw [if_pos hc]
  rfl
theorem getL_of {e : Env} {t : Nat} {v : V} {κ : V → Ans} (h : Go.Og.look e t = some v) (hl : v.live = true) : getL e t κ = κ v := by
  unfold getL
  rw [h]
  exact chk_true hl
def zero5 : List V := [.str ⟨0, 0⟩, .int .i64 (Int.ofNat 0), .nils, .nils, .nils]
section
variable {D : Den} {N : Nat}
end
end
end Go.Proofs.YtdfgcokapncaiaaGreatDoor
set_option linter.all false
set_option maxRecDepth 100000
namespace Go.Proofs.YtdfgcokapncaiaaGreatDoor
open Go Go.Og
noncomputable section
def stepC (r : List Nat) : Option (Nat × List Nat × List Nat) := match letterB (r.getD 0 0) with
  | true => match nameK (r.take (nameLen r)) with
    | 0 => none
    | k + 1 => some (k + 1, r.take (nameLen r), r.drop (nameLen r))
  | false => match digitB (r.getD 0 0) || Nat.beq (r.getD 0 0) 39 || Nat.beq (r.getD 0 0) 34 || Nat.beq (r.getD 0 0) 45 with
    | true => none
    | false => match signOf r with
      | some t => some (6, t.nats, r.drop t.len)
      | none => none
theorem stepC_ok {r w r' : List Nat} {k : Nat} (h : stepC r = some (k, w, r')) : Step r k w r' ∧ 0 < k ∧ 0 < r.length := by
  unfold stepC at h
  have hne : 0 < r.length := by
    cases r with
    | nil => cases h
    | cons _ _ => simp
  cases hl : letterB (r.getD 0 0) with
  | true =>
    rw [hl] at h
    simp only [] at h
    cases hk : nameK (r.take (nameLen r)) with
    | zero => rw [hk] at h; cases h
    | succ n =>
      rw [hk] at h
      simp only [Option.some.injEq, Prod.mk.injEq] at h
      obtain ⟨rfl, rfl, rfl⟩ := h
      exact ⟨Step.name hl hk, Nat.succ_pos _, hne⟩
  | false =>
    rw [hl] at h
    simp only [] at h
    cases hc : (digitB (r.getD 0 0) || Nat.beq (r.getD 0 0) 39 || Nat.beq (r.getD 0 0) 34 || Nat.beq (r.getD 0 0) 45) with
    | true => rw [hc] at h; cases h
    | false =>
      rw [hc] at h
      simp only [] at h
      simp only [Bool.or_eq_false_iff] at hc
      obtain ⟨⟨⟨h1, h2⟩, h3⟩, h4⟩ := hc
      cases hs : signOf r with
      | none => rw [hs] at h; cases h
      | some t =>
        rw [hs] at h
        simp only [Option.some.injEq, Prod.mk.injEq] at h
        obtain ⟨rfl, rfl, rfl⟩ := h
        have ne : ∀ {a b : Nat}, Nat.beq a b = false → a ≠ b := fun hb he => by subst he; rw [Nat.beq_refl] at hb; cases hb
        exact ⟨Step.sign hl h1 (ne h2) (ne h3) (fun he => absurd he (ne h4)) hs, by decide, hne⟩
def runC (N : Nat) : Nat → List Nat → Option (List (Nat × List Nat × List Nat) × List Nat)
  | 0, r => some ([], r)
  | k + 1, r => match stepC r with
    | none => none
    | some (q, w, r1) => match runC N k (skipF N r1) with
      | none => none
      | some (l, r') => some ((q, w, r) :: l, r')
def tk (len : Nat) (q : Nat × List Nat × List Nat) : Tk := (q.1, q.2.1, len - q.2.2.length)
theorem runC_ok {N len : Nat} : ∀ (k : Nat) (r : List Nat) (l : List (Nat × List Nat × List Nat)) (r' : List Nat) (ts : List Tk), runC N k r = some (l, r') → Toks N len r' ts → Toks N len r (l.map (tk len) ++ ts)
  | 0, r, l, r', ts, h, ht => by
    simp only [runC, Option.some.injEq, Prod.mk.injEq] at h
    obtain ⟨rfl, rfl⟩ := h
    exact ht
  | k + 1, r, l, r', ts, h, ht => by
    unfold runC at h
    cases hs : stepC r with
    | none => rw [hs] at h; cases h
    | some x =>
      obtain ⟨q, w, r1⟩ := x
      rw [hs] at h
      simp only [] at h
      cases hr : runC N k (skipF N r1) with
      | none => rw [hr] at h; cases h
      | some y =>
        obtain ⟨l1, r2⟩ := y
        rw [hr] at h
        simp only [Option.some.injEq, Prod.mk.injEq] at h
        obtain ⟨rfl, rfl⟩ := h
        obtain ⟨h1, h2, h3⟩ := stepC_ok hs
        exact Toks.cons h3 h2 h1 (runC_ok k _ _ _ _ hr ht)

/-! ### the texts -/
theorem skip_stay {n c : Nat} {r : List Nat} (hw : whiteB c = false) (hd : preB [45, 45] (c :: r) = false) : skipF (n + 1) (c :: r) = c :: r := by
  show (match whiteB c with | true => _ | false => (match preB [45, 45] (c :: r) with | true => _ | false => c :: r)) = _
  rw [hw, hd]
end
end Go.Proofs.YtdfgcokapncaiaaGreatDoor
set_option linter.all false
set_option maxRecDepth 100000
set_option maxHeartbeats 1000000
namespace Go.Proofs.YtdfgcokapncaiaaGreatDoor
open Go Go.Og
noncomputable section
theorem big : 10000 < 100000 := by decide
theorem xPeek (d : Nat) : SpPeek (TW (d + 1) 64) := by rw [DE64]; exact peek_F _ _ _
theorem xLetter (d : Nat) : SpLetter (TW (d + 1) 66) := by rw [DE66]; exact letter_F _ _ _
theorem xDigit (d : Nat) : SpDigit (TW (d + 1) 68) := by rw [DE68]; exact digit_F _ _ _
theorem xLHP (d : Nat) : SpPre (TW (d + 1) 126) := by rw [DE126]; exact lHP_F _ _ _
theorem xSHP (d : Nat) : SpPre (TW (d + 2) 99) := by rw [DE99]; exact sHP_F (xLHP d)
theorem xAhead (d : Nat) : SpAhead (TW (d + 3) 65) := by rw [DE65]; exact ahead_F (xSHP d)
theorem xSkip (d : Nat) : SpSkip 100000 (TW (d + 4) 40) := by rw [DE40]; exact skip_F (xPeek (d + 2)) (xAhead d) big
theorem xWord (d : Nat) : SpWord (TW (d + 1) 100) := by rw [DE100]; exact word_F _ _ _
theorem xName (d : Nat) : SpTok nameLen (fun r => nameK (r.take (nameLen r))) (fun r => letterB (r.getD 0 0) = true) (TW (d + 2) 67) := by rw [DE67]; exact name_F (xPeek d) (xLetter d) (xDigit d) (xWord d) big
theorem xUint (d : Nat) : SpUint (TW (d + 1) 153) := by rw [DE153]; exact uint_F big
theorem xIInt (d : Nat) : SpInt (TW (d + 2) 127) := by rw [DE127]; exact iint_F (xUint d)
theorem xInt (d : Nat) : SpInt (TW (d + 3) 101) := by rw [DE101]; exact sint_F (xIInt d)
theorem xNum (d : Nat) : SpNum (TW (d + 4) 69) := by rw [DE69]; exact num_F (xPeek (d + 2)) (xLetter (d + 2)) (xDigit (d + 2)) (xInt d) big
theorem xSign (d : Nat) : SpSign (TW (d + 4) 72) := by rw [DE72]; exact sign_F (xAhead d) big
theorem xToken (d : Nat) : SpToken (TW (d + 5) 41) := by rw [DE41]; exact token_F (xPeek (d + 3)) (xLetter (d + 3)) (xDigit (d + 3)) (xName (d + 2)) (xNum d) (xSign d)
theorem xTokens (d : Nat) : SpTokens 100000 (TW (d + 6) 24) := by rw [DE24]; exact tokens_F (xToken d) (xSkip (d + 1)) big
theorem xSPeek (d : Nat) : SpSPeek (TW (d + 1) 45) := by rw [DE45]; exact speek_F
theorem xNext (d : Nat) : SpNext (TW (d + 1) 74) := by rw [DE74]; exact next_F
theorem xStands (d : Nat) : SpStands (TW (d + 2) 44) := by rw [DE44]; exact stands_F (xSPeek d)
theorem xIs (d : Nat) : SpIs (TW (d + 3) 75) := by rw [DE75]; exact is_F (xStands d) (xNext (d + 1))
theorem xWant (d : Nat) : SpWant (TW (d + 4) 43) := by rw [DE43]; exact want_F (xIs d) big
theorem xOf (d : Nat) : SpOf (TW (d + 2) 42) := by rw [DE42]; exact of_F (xSPeek d) (xNext d)
theorem xPNum (d : Nat) : SpPNum (TW (d + 4) 158) := by rw [DE158]; exact pnum_F (xOf (d + 1)) (xInt d)
theorem stB_of {k a : Nat} {w : List Nat} {s : BS} {b : Bool} (h : ((eqF (Int.ofNat k) (Int.ofNat 5) || eqF (Int.ofNat k) (Int.ofNat 6)) && BS.beq (ofN w) s) = b) : stB (k, w, a) s = b := h
end
end Go.Proofs.YtdfgcokapncaiaaGreatDoor
set_option linter.all false
set_option maxRecDepth 100000
namespace Go.Proofs.YtdfgcokapncaiaaGreatDoor
open Go Go.Og
noncomputable section
/-- A type's node, with bounds. -/
def nd (k : Nat) (has hl hh mo : Bool) (lo hi : Int) (on : Nat) : List V := [.int .i64 (Int.ofNat k), .str ⟨0, 0⟩, .bool false, .int .i64 (Int.ofNat 0), .int .i64 (Int.ofNat 0), .bool has, .bool hl, .bool hh, .bool mo, .int .i64 lo, .int .i64 hi, .nils, .nils, .int .i64 (Int.ofNat 0), .bool false, .int .i64 (Int.ofNat on)]
/-- The parser, and a block that it writes. -/
structure Cx (σ : H) (p tb : Nat) (ts : List Tk) (j : Nat) (m : List V) (cb : Nat) (L : List V) : Prop where
  x : Px σ p tb ts j m
  c : Atc σ cb L
  np : cb ≠ p
  nt : cb ≠ tb
section
variable {D : Den} {W : DrawFn} {N : Nat} {σ : H} {p tb j cb : Nat} {ts : List Tk} {m L : List V} {t : Tk} {s : BS}
theorem Cx.isT (h : Cx σ p tb ts j m cb L) (hI : SpIs (D 75)) (ht : ts[j]? = some t) (hs : stB t s = true) : ∃ σ', D 75 [.ptr p 0, .str s] σ = some (.bool true, σ') ∧ Cx σ' p tb ts (j + 1) m cb L ∧ Fr (fun k => k = p ∨ k = cb) σ σ' := by
  have i := hI σ p tb j ts _ t s h.x ht
  rw [hs] at i
  have f := h.x.setFr (j + 1) m
  exact ⟨_, i, ⟨h.x.set (j + 1) m, f.at_ h.c h.x.tidy h.np, h.np, h.nt⟩, (Fr.refl h.x.tidy).trans f (fun _ _ h => Or.inl h)⟩
theorem Cx.isF (h : Cx σ p tb ts j m cb L) (hI : SpIs (D 75)) (ht : ts[j]? = some t) (hs : stB t s = false) : D 75 [.ptr p 0, .str s] σ = some (.bool false, σ) := by
  have i := hI σ p tb j ts _ t s h.x ht
  rw [hs] at i
  exact i
theorem Cx.num (h : Cx σ p tb ts j m cb L) (hN : SpPNum (D 158)) {w : List Nat} {a : Nat} {v : Int} (ht : ts[j]? = some (3, w, a)) (hw : NumOk w v) : ∃ σ', D 158 [.ptr p 0] σ = some (.tup [.int .i64 v, tokV (3, w, a), .bool true], σ') ∧ Cx σ' p tb ts (j + 1) m cb L ∧ Fr (fun k => k = p ∨ k = cb) σ σ' := by
  obtain ⟨σ', g, x, f⟩ := hN σ p tb j ts m w a v h.x ht hw
  exact ⟨σ', g, ⟨x, f.at_ h.c h.x.tidy h.np, h.np, h.nt⟩, (Fr.refl h.x.tidy).trans f (fun _ _ h => Or.inl h)⟩
theorem Cx.st (h : Cx σ p tb ts j m cb L) (o : Nat) (v : V) (hc : (Nat.beq v.cells.length 1 && Nat.ble (Nat.add o 1) L.length && allOne v.cells) = true) : ∃ σ', (∀ κ, stK 1 cb o v σ κ = κ σ') ∧ Cx σ' p tb ts j m cb (spl L o v.cells) ∧ Fr (fun k => k = p ∨ k = cb) σ σ' := by
  have f := Fr.set h.x.tidy (h.c.lt h.x.tidy) (.cells (spl L o v.cells))
  exact ⟨_, fun κ => stK_at h.c hc, ⟨h.x.fr f (fun e => h.np e.symm) (fun e => h.nt e.symm), Atc_setF _, h.np, h.nt⟩, (Fr.refl h.x.tidy).trans f (fun _ _ h => Or.inr h)⟩
theorem Cx.ld (h : Cx σ p tb ts j m cb L) {o : Nat} {v : V} (hv : nthF L o = some v) (κ : V → Ans) : ldK [] σ cb o κ = κ v := ldK_at h.c hv
theorem Cx.new (h : Cx σ p tb ts j m cb L) (z : List V) : ∃ σ', newB σ (.cells z) = σ' ∧ Cx σ' p tb ts j m cb L ∧ Atc σ' σ.next z ∧ σ.next ≠ p ∧ σ.next ≠ cb ∧ Fr (fun k => k = p ∨ k = cb) σ σ' := by
  have f : Fr Nowhere σ (newB σ (.cells z)) := Fr.new h.x.tidy _
  have l1 := h.x.lt; have l2 := h.c.lt h.x.tidy
  exact ⟨_, rfl, ⟨h.x.fr f (fun h => h) (fun h => h), f.at_ h.c h.x.tidy (fun h => h), h.np, h.nt⟩, Atc_newB _, by omega, by omega, (Fr.refl h.x.tidy).trans f (fun _ _ h => h.elim)⟩
theorem Cx.want (h : Cx σ p tb ts j m cb L) (hW : SpWant (D 43)) {sb : Nat} {l : List BS} (ha : Atc σ sb (l.map .str)) (hn : sb ≠ p) (hs : Stand ts j l) (hl : l.length ≤ 5) : ∃ σ', D 43 [.ptr p 0, .sl sb 0 l.length (.ex l.length)] σ = some (.bool true, σ') ∧ Cx σ' p tb ts (j + l.length) m cb L ∧ Fr (fun k => k = p ∨ k = cb) σ σ' := by
  obtain ⟨σ', g, x, f⟩ := hW σ p tb j sb ts m l h.x ha hn hs hl
  exact ⟨σ', g, ⟨x, f.at_ h.c h.x.tidy h.np, h.np, h.nt⟩, (Fr.refl h.x.tidy).trans f (fun _ _ h => Or.inl h)⟩
/-- The step from one state of the parser and that block to another. -/
def To (F : H → Ans) (G : H → Ans) (p tb : Nat) (ts : List Tk) (j j' : Nat) (m : List V) (cb : Nat) (L L' : List V) : Prop :=
  ∀ σ, Cx σ p tb ts j m cb L → ∃ σ', F σ = G σ' ∧ Cx σ' p tb ts j' m cb L' ∧ Fr (fun k => k = p ∨ k = cb) σ σ'
theorem To.trans {F G H' : H → Ans} {j' j'' : Nat} {L' L'' : List V} (a : To F G p tb ts j j' m cb L L') (b : To G H' p tb ts j' j'' m cb L' L'') : To F H' p tb ts j j'' m cb L L'' := fun σ h =>
  let ⟨σ1, e1, h1, f1⟩ := a σ h
  let ⟨σ2, e2, h2, f2⟩ := b σ1 h1
  ⟨σ2, e1.trans e2, h2, f1.trans f2 (fun _ _ h => h)⟩
/-- The low bound: none. -/
theorem low_min (hI : SpIs (D 75)) {k on : Nat} (ht : ts[j]? = some t) (hs : stB t (BS.mk 3 5130573) = true) :
    To (J132_0 [] D W N p 0 cb 5) (J132_1 [] D W N p 0 cb 5) p tb ts j (j + 1) m cb (nd k false false false false (Int.ofNat 0) (Int.ofNat 0) on) (nd k true false false false (Int.ofNat 0) (Int.ofNat 0) on) := by
  intro σ h
  obtain ⟨σ1, e1, h1, f1⟩ := h.st 5 (.bool true) rfl
  obtain ⟨σ2, e2, h2, f2⟩ := h1.isT hI ht hs
  refine ⟨σ2, ?_, h2, f1.trans f2 (fun _ _ h => h)⟩
  show T132_0 [] D W (J132_1 [] D W N) p 0 cb 5 σ = _
  simp only [T132_0, e1, e2, callK_some_, rtBool_bool, Bool.not_true, condK_false]
/-- The low bound: a number. -/
theorem low_num (hI : SpIs (D 75)) (hN : SpPNum (D 158)) {k on a : Nat} {w : List Nat} {v : Int} (ht : ts[j]? = some (3, w, a)) (hw : NumOk w v) :
    To (J132_0 [] D W N p 0 cb 5) (J132_1 [] D W N p 0 cb 5) p tb ts j (j + 1) m cb (nd k false false false false (Int.ofNat 0) (Int.ofNat 0) on) (nd k true true false false v (Int.ofNat 0) on) := by
  intro σ h
  obtain ⟨σ1, e1, h1, f1⟩ := h.st 5 (.bool true) rfl
  have e2 := h1.isF (s := BS.mk 3 5130573) hI ht rfl
  obtain ⟨σ3, e3, h3, f3⟩ := h1.num hN ht hw
  obtain ⟨σ4, e4, h4, f4⟩ := h3.st (Nat.add 5 1) (.bool true) rfl
  obtain ⟨σ5, e5, h5, f5⟩ := h4.st (Nat.add 5 4) (.int .i64 v) rfl
  refine ⟨σ5, ?_, h5, ((f1.trans f3 (fun _ _ h => h)).trans f4 (fun _ _ h => h)).trans f5 (fun _ _ h => h)⟩
  show T132_0 [] D W (J132_1 [] D W N) p 0 cb 5 σ = _
  simp only [T132_0, e1, e2, e3, e4, e5, callK_some_, rtBool_bool, Bool.not_false, Bool.not_true, condK_true, condK_false, rtTup_tup, rtCons_cons, rtInt_int, tokV, rtAgg_agg, rtStr_str, rtNil_nil]
/-- The high bound: as the low one. -/
theorem high_same (hI : SpIs (D 75)) {k on : Nat} {v : Int} (ht : ts[j]? = some t) (hs : stB t (BS.mk 2 11822) = false) :
    To (J132_1 [] D W N p 0 cb 5) (J132_2 [] D W N p 0 cb 5) p tb ts j j m cb (nd k true true false false v (Int.ofNat 0) on) (nd k true true true false v v on) := by
  intro σ h
  have e1 := h.isF hI ht hs
  have e2 : ∀ κ, ldK [] σ cb (Nat.add 5 1) κ = κ (.bool true) := h.ld rfl
  have e3 : ∀ κ, ldK [] σ cb (Nat.add 5 4) κ = κ (.int .i64 v) := h.ld rfl
  obtain ⟨σ4, e4, h4, f4⟩ := h.st (Nat.add 5 2) (.bool true) rfl
  obtain ⟨σ5, e5, h5, f5⟩ := h4.st (Nat.add 5 5) (.int .i64 v) rfl
  refine ⟨σ5, ?_, h5, f4.trans f5 (fun _ _ h => h)⟩
  show T132_1 [] D W (J132_2 [] D W N) p 0 cb 5 σ = _
  simp only [T132_1, e1, e2, e3, e4, e5, callK_some_, rtBool_bool, rtInt_int, Bool.not_false, condK_true]
theorem high_max (hI : SpIs (D 75)) {k on : Nat} {hl : Bool} {v : Int} {t1 : Tk} (ht : ts[j]? = some t) (hs : stB t (BS.mk 2 11822) = true) (ht1 : ts[j + 1]? = some t1) (hs1 : stB t1 (BS.mk 3 5783885) = true) :
    To (J132_1 [] D W N p 0 cb 5) (J132_2 [] D W N p 0 cb 5) p tb ts j (j + 2) m cb (nd k true hl false false v (Int.ofNat 0) on) (nd k true hl false false v (Int.ofNat 0) on) := by
  intro σ h
  obtain ⟨σ1, e1, h1, f1⟩ := h.isT hI ht hs
  obtain ⟨σ2, e2, h2, f2⟩ := h1.isT hI ht1 hs1
  refine ⟨σ2, ?_, h2, f1.trans f2 (fun _ _ h => h)⟩
  show T132_1 [] D W (J132_2 [] D W N) p 0 cb 5 σ = _
  simp only [T132_1, e1, e2, callK_some_, rtBool_bool, Bool.not_true, condK_false]
theorem high_num (hI : SpIs (D 75)) (hN : SpPNum (D 158)) {k on a : Nat} {hl : Bool} {u v : Int} {w : List Nat} (ht : ts[j]? = some t) (hs : stB t (BS.mk 2 11822) = true) (ht1 : ts[j + 1]? = some (3, w, a)) (hw : NumOk w v) :
    To (J132_1 [] D W N p 0 cb 5) (J132_2 [] D W N p 0 cb 5) p tb ts j (j + 2) m cb (nd k true hl false false u (Int.ofNat 0) on) (nd k true hl true false u v on) := by
  intro σ h
  obtain ⟨σ1, e1, h1, f1⟩ := h.isT hI ht hs
  have e2 := h1.isF (s := BS.mk 3 5783885) hI ht1 rfl
  obtain ⟨σ3, e3, h3, f3⟩ := h1.num hN ht1 hw
  obtain ⟨σ4, e4, h4, f4⟩ := h3.st (Nat.add 5 2) (.bool true) rfl
  obtain ⟨σ5, e5, h5, f5⟩ := h4.st (Nat.add 5 5) (.int .i64 v) rfl
  refine ⟨σ5, ?_, h5, ((f1.trans f3 (fun _ _ h => h)).trans f4 (fun _ _ h => h)).trans f5 (fun _ _ h => h)⟩
  show T132_1 [] D W (J132_2 [] D W N) p 0 cb 5 σ = _
  simp only [T132_1, e1, e2, e3, e4, e5, callK_some_, rtBool_bool, Bool.not_false, Bool.not_true, condK_true, condK_false, rtTup_tup, rtCons_cons, rtInt_int, tokV, rtAgg_agg, rtStr_str, rtNil_nil]
/-- Whether there may be more. -/
theorem more_no (hI : SpIs (D 75)) (ht : ts[j]? = some t) (hs : stB t (BS.mk 1 44) = false) :
    To (J132_2 [] D W N p 0 cb 5) (fun σ => some (.bool true, σ)) p tb ts j j m cb L L := by
  intro σ h
  have e1 := h.isF hI ht hs
  refine ⟨σ, ?_, h, Fr.refl h.x.tidy⟩
  show T132_2 [] D W p 0 cb 5 σ = _
  simp only [T132_2, e1, callK_some_, rtBool_bool, condK_false]
theorem more_yes (hI : SpIs (D 75)) (hW : SpWant (D 43)) {k on : Nat} {hl hh : Bool} {u v : Int} {t1 : Tk} (ht : ts[j]? = some t) (hs : stB t (BS.mk 1 44) = true) (ht1 : ts[j + 1]? = some t1) (hs1 : stB t1 (BS.mk 3 3026478) = true) :
    To (J132_2 [] D W N p 0 cb 5) (fun σ => some (.bool true, σ)) p tb ts j (j + 2) m cb (nd k true hl hh false u v on) (nd k true hl hh true u v on) := by
  intro σ h
  obtain ⟨σ1, e1, h1, f1⟩ := h.isT hI ht hs
  obtain ⟨σ2, e2, h2, f2⟩ := h1.st (Nat.add 5 3) (.bool true) rfl
  obtain ⟨σ3, e3, h3, a3, n1, n2, f3⟩ := h2.new [V.str (BS.mk 3 3026478)]
  obtain ⟨σ4, e4, h4, f4⟩ := h3.want hW (l := [BS.mk 3 3026478]) a3 n1 ⟨⟨t1, ht1, hs1⟩, trivial⟩ (by simp)
  refine ⟨σ4, ?_, h4, ((f1.trans f2 (fun _ _ h => h)).trans f3 (fun _ _ h => h)).trans f4 (fun _ _ h => h)⟩
  show T132_2 [] D W p 0 cb 5 σ = _
  simp only [T132_2, e1, e2, callK_some_, rtBool_bool, condK_true]
  rw [e3]
  have e4' : D 43 [.ptr p 0, .sl (H.next σ2) 0 1 (.ex 1)] σ3 = some (.bool true, σ4) := e4
  simp only [e4', callK_some_, rtBool_bool]
end

/-! ### bounds, size -/
def SpBd (ts : List Tk) (j j' : Nat) (hl hh mo : Bool) (u v : Int) (F : List V → H → Ans) : Prop := ∀ (σ : H) (p tb : Nat) (m : List V) (cb k on : Nat), Cx σ p tb ts j m cb (nd k false false false false (Int.ofNat 0) (Int.ofNat 0) on) →
  ∃ σ', F [.ptr p 0, .ptr cb 5] σ = some (.bool true, σ') ∧ Cx σ' p tb ts j' m cb (nd k true hl hh mo u v on) ∧ Fr (fun k => k = p ∨ k = cb) σ σ'
section
variable {D : Den} {W : DrawFn} {N : Nat} {ts : List Tk} {j j' : Nat} {t t1 : Tk}
theorem bounds_F {hl hh mo : Bool} {u v : Int} (h : ∀ (p tb : Nat) (m : List V) (cb k on : Nat), To (J132_0 [] D W N p 0 cb 5) (fun σ => some (.bool true, σ)) p tb ts j j' m cb (nd k false false false false (Int.ofNat 0) (Int.ofNat 0) on) (nd k true hl hh mo u v on)) : SpBd ts j j' hl hh mo u v (F132 [] D W N) := fun σ p tb m cb k on hc =>
  let ⟨σ', e, h', f⟩ := h p tb m cb k on σ hc
  ⟨σ', e, h', f⟩
end
end
end Go.Proofs.YtdfgcokapncaiaaGreatDoor
set_option linter.all false
set_option maxRecDepth 100000
namespace Go.Proofs.YtdfgcokapncaiaaGreatDoor
open Go Go.Og
noncomputable section
def NT (D : Den) (K1 : Nat → Nat → Bool → Nat → Nat → H → Ans) (v0b : Nat) (v0o : Nat) (v1 : Int) (x19 : Bool) (b4 b8 : Nat) (s37 : H) : Ans :=
 callK (D 75 [(V.ptr v0b v0o), (V.str (BS.mk 7 22026814072246082))] s37) fun u109 s110 =>
 rtBool u109 fun x111 =>
 condK x111 (
 stK 1 b8 0 (V.int .i64 (Int.ofNat 1)) s110 fun s112 =>
 K1 b4 0 x19 b8 0 s112) (
 callK (D 75 [(V.ptr v0b v0o), (V.str (BS.mk 4 1280070990))] s110) fun u113 s114 =>
 rtBool u113 fun x115 =>
 condK x115 (
 stK 1 b8 0 (V.int .i64 (Int.ofNat 4)) s114 fun s116 =>
 K1 b4 0 x19 b8 0 s116) (
 callK (D 75 [(V.ptr v0b v0o), (V.str (BS.mk 10 488440487847103610377301))] s114) fun u117 s118 =>
 rtBool u117 fun x119 =>
 condK x119 (
 stK 1 b8 0 (V.int .i64 (Int.ofNat 6)) s118 fun s120 =>
 callK (D 131 [(V.ptr v0b v0o), (V.ptr b8 5)] s120) fun u121 s122 =>
 rtBool u121 fun x123 =>
 K1 b4 0 x123 b8 0 s122) (
 callK (D 75 [(V.ptr v0b v0o), (V.str (BS.mk 7 23157120498421321))] s118) fun u124 s125 =>
 rtBool u124 fun x126 =>
 condK x126 (
 stK 1 b8 0 (V.int .i64 (Int.ofNat 2)) s125 fun s127 =>
 callK (D 75 [(V.ptr v0b v0o), (V.str (BS.mk 1 40))] s127) fun u128 s129 =>
 rtBool u128 fun x130 =>
 joinB (fun c131 s132 =>
 K1 b4 0 c131 b8 0 s132) fun k133 =>
 condK (not x130) (
 k133 true s129) (
 callK (D 132 [(V.ptr v0b v0o), (V.ptr b8 5)] s129) fun u134 s135 =>
 rtBool u134 fun x136 =>
 joinB (fun c137 s138 =>
 k133 c137 s138) fun k139 =>
 condK x136 (
 let s140 := newB s135 (.cells [(V.str (BS.mk 1 41))]);
 callK (D 43 [(V.ptr v0b v0o), (V.sl (H.next s135) 0 1 (.ex 1))] s140) fun u141 s142 =>
 rtBool u141 fun x143 =>
 k139 x143 s142) (
 k139 false s135))) (
 callK (D 75 [(V.ptr v0b v0o), (V.str (BS.mk 5 361940403023))] s125) fun u144 s145 =>
 rtBool u144 fun x146 =>
 condK x146 (
 stK 1 b8 0 (V.int .i64 (Int.ofNat 5)) s145 fun s147 =>
 let s148 := newB s147 (.cells [(V.str (BS.mk 6 78401563153491))]);
 callK (D 43 [(V.ptr v0b v0o), (V.sl (H.next s147) 0 1 (.ex 1))] s148) fun u149 s150 =>
 rtBool u149 fun x151 =>
 joinB (fun c152 s153 =>
 K1 b4 0 c152 b8 0 s153) fun k154 =>
 condK x151 (
 callK (D 131 [(V.ptr v0b v0o), (V.ptr b8 5)] s150) fun u155 s156 =>
 rtBool u155 fun x157 =>
 k154 x157 s156) (
 k154 false s150)) (
 callK (D 75 [(V.ptr v0b v0o), (V.str (BS.mk 10 322399817400452109389381))] s145) fun u158 s159 =>
 rtBool u158 fun x160 =>
 condK x160 (
 stK 1 b8 0 (V.int .i64 (Int.ofNat 3)) s159 fun s161 =>
 callK (D 133 [(V.ptr v0b v0o), (V.ptr b8 0)] s161) fun u162 s163 =>
 rtBool u162 fun x164 =>
 K1 b4 0 x164 b8 0 s163) (
 callK (D 75 [(V.ptr v0b v0o), (V.str (BS.mk 3 5522771))] s159) fun u165 s166 =>
 rtBool u165 fun x167 =>
 condK x167 (
 stK 1 b8 0 (V.int .i64 (Int.ofNat 8)) s166 fun s168 =>
 callK (D 134 [(V.ptr v0b v0o), (V.ptr b8 0), (V.int .i64 v1)] s168) fun u169 s170 =>
 rtBool u169 fun x171 =>
 K1 b4 0 x171 b8 0 s170) (
 callK (D 75 [(V.ptr v0b v0o), (V.str (BS.mk 6 76155295057987))] s166) fun u172 s173 =>
 rtBool u172 fun x174 =>
 condK x174 (
 stK 1 b8 0 (V.int .i64 (Int.ofNat 9)) s173 fun s175 =>
 callK (D 134 [(V.ptr v0b v0o), (V.ptr b8 0), (V.int .i64 v1)] s175) fun u176 s177 =>
 rtBool u176 fun x178 =>
 K1 b4 0 x178 b8 0 s177) (
 callK (D 75 [(V.ptr v0b v0o), (V.str (BS.mk 8 4990918871747741011))] s173) fun u179 s180 =>
 rtBool u179 fun x181 =>
 condK x181 (
 callK (D 135 [(V.ptr v0b v0o), (V.ptr b8 0), (V.int .i64 v1)] s180) fun u182 s183 =>
 rtBool u182 fun x184 =>
 K1 b4 0 x184 b8 0 s183) (
 callK (D 45 [(V.ptr v0b v0o)] s180) fun u185 s186 =>
 rtAgg u185 fun l187 =>
 rtCons l187 fun x188 l189 =>
 rtInt .i64 x188 fun x190 =>
 rtCons l189 fun x191 l192 =>
 rtStr x191 fun x193 =>
 rtCons l192 fun x194 l195 =>
 rtInt .i64 x194 fun x196 =>
 rtNil l195 (
 callK (D 73 [(V.ptr v0b v0o), (V.int .i64 x196), (V.int .i64 (Int.ofNat 7))] s186) fun u197 s198 =>
 rtBool u197 fun x199 =>
 K1 b4 0 x199 b8 0 s198))))))))))
/-- No tag stands there. -/
def SpMark0 (ts : List Tk) (j : Nat) (F : List V → H → Ans) : Prop := ∀ (σ : H) (p tb : Nat) (m : List V), Px σ p tb ts j m →
  F [.ptr p 0] σ = some (.tup [.agg [.bool false, .int .i64 (Int.ofNat 0), .int .i64 (Int.ofNat 0)], .bool true], σ)
def SpNd (ts : List Tk) (j j' : Nat) (L : List V) (Q : H → H → List V → List V → Prop) (F : List V → H → Ans) : Prop := ∀ (σ : H) (p tb : Nat) (d : Int) (m : List V), Px σ p tb ts j m →
  ∃ σ6 σ7 σ8 m' b4, F [.ptr p 0, .int .i64 d] σ = some (.tup [.agg L, .bool true], σ8) ∧ Px σ8 p tb ts j' m' ∧ Fr (fun k => k = p) σ σ8 ∧ Q σ6 σ7 m m' ∧ Fr (fun k => k = b4) σ7 σ8 ∧ b4 < σ6.next ∧ σ.next ≤ b4 ∧ Fr (fun k => k = p) σ σ6
section
variable {D : Den} {W : DrawFn} {N : Nat} {ts : List Tk} {j j' : Nat} {t t1 : Tk}
theorem mark0_F (hI : SpIs (D 75)) (ht : ts[j]? = some t) (hs : stB t (BS.mk 1 91) = false) : SpMark0 ts j (F130 [] D W N) := by
  intro σ p tb m h
  have i := hI σ p tb j ts _ t (BS.mk 1 91) h ht
  rw [hs] at i
  simp only [] at i
  show T130_0 [] D W (J130_1 [] D W N) p 0 σ = _
  simp only [T130_0, i, callK_some_, rtBool_bool, Bool.not_false, condK_true]
theorem node_end {σ : H} {b4 b8 k on : Nat} {has hl hh mo : Bool} {u v : Int} {z : List V} (h8 : Atc σ b8 (nd k has hl hh mo u v on)) (h4 : Atc σ b4 zero16) :
    J104_1 [] D W N b4 0 true b8 0 σ = some (.tup [.agg (nd k has hl hh mo u v on), .bool true], setF σ b4 (.cells (nd k has hl hh mo u v on))) := by
  show T104_1 [] D W b4 0 true b8 0 σ = _
  unfold T104_1
  rw [ldnK_at h8 (by show 0 + 16 ≤ 16; omega)]
  show rtCons (nd k has hl hh mo u v on) _ = _
  simp only [nd, rtCons_cons, rtInt_int, rtStr_str, rtBool_bool, rtNil_nil]
  rw [stK_at h4 rfl]
  show ldnK [] (setF σ b4 (.cells (nd k has hl hh mo u v on))) b4 0 16 _ = _
  rw [ldnK_at (Atc_setF _) (by show 0 + 16 ≤ 16; omega)]
  rfl
theorem nd_F (hP : SpSPeek (D 45)) (hM : SpMark0 ts j (D 130)) (ht : ts[j]? = some t) (hk : t.1 = 5) {k on : Nat} {has hl hh mo : Bool} {u v : Int} {Q : H → H → List V → List V → Prop}
    (hT : ∀ (p tb : Nat) (m : List V) (d : Int) (b4 b8 : Nat) (σ : H), Cx σ p tb ts j m b8 (nd 0 false false false false (Int.ofNat 0) (Int.ofNat 0) 0) → ∃ σ' m', NT D (J104_1 [] D W N) p 0 d true b4 b8 σ = J104_1 [] D W N b4 0 true b8 0 σ' ∧ Cx σ' p tb ts j' m' b8 (nd k has hl hh mo u v on) ∧ Fr (fun k => k = p ∨ k = b8) σ σ' ∧ Q σ σ' m m') :
    SpNd ts j j' (nd k has hl hh mo u v on) Q (F104 [] D W N) := by
  intro σ p tb d m h
  obtain ⟨σ1, e1, f1, a1, n1⟩ := mk_new h.tidy zero16
  have x1 := h.fr f1 (fun h => h) (fun h => h)
  have lp := h.lt; have ltb := h.tlt
  have g2 := hM σ1 p tb m x1
  obtain ⟨σ3, e3, f3, a3, n3⟩ := mk_new x1.tidy zero16
  have x3 := x1.fr f3 (fun h => h) (fun h => h)
  have a13 := f3.at_ a1 x1.tidy (fun h => h)
  obtain ⟨σ4, e4, f4, a4⟩ := mk_set x3.tidy a3 (nd 0 false false false false (Int.ofNat 0) (Int.ofNat 0) 0)
  have x4 := x3.fr f4 (by omega) (by omega)
  have a14 := f4.at_ a13 x3.tidy (by omega)
  have le4 : σ3.next ≤ σ4.next := f4.le
  obtain ⟨σ5, e5, f5, a5, n5⟩ := mk_new x4.tidy [.int .i64 (Int.ofNat 0), .str ⟨0, 0⟩, .int .i64 (Int.ofNat 0)]
  have x5 := x4.fr f5 (fun h => h) (fun h => h)
  have a15 := f5.at_ a14 x4.tidy (fun h => h)
  have a45 := f5.at_ a4 x4.tidy (fun h => h)
  obtain ⟨σ6, e6, f6, a6⟩ := mk_set x5.tidy a5 [.int .i64 (Int.ofNat t.1), .str (ofN t.2.1), .int .i64 (Int.ofNat t.2.2)]
  have x6 := x5.fr f6 (by omega) (by omega)
  have a16 := f6.at_ a15 x5.tidy (by omega)
  have a46 := f6.at_ a45 x5.tidy (by omega)
  have le6 : σ5.next ≤ σ6.next := f6.le
  have pk := hP σ4 p tb j ts _ t x4 ht
  obtain ⟨σ7, m', e7, c7, f7, q7⟩ := hT p tb m d σ.next σ1.next σ6 ⟨x6, a46, by omega, by omega⟩
  have a17 := f7.at_ a16 x6.tidy (by omega)
  have f8 := Fr.set c7.x.tidy (a17.lt c7.x.tidy) (.cells (nd k has hl hh mo u v on))
  have q16 : Fr (fun k => k = p) σ σ6 := ((((f1.mono (T := fun k => k = p) (fun _ _ h => h.elim)).trans f3 (fun _ _ h => h.elim)).trans f4 (fun c hc h => by have h : c = σ1.next := h; omega)).trans f5 (fun _ _ h => h.elim)).trans f6 (fun c hc h => by have h : c = σ4.next := h; omega)
  have l7 := c7.x.lt; have lt7 := c7.x.tlt
  refine ⟨σ6, σ7, _, m', σ.next, ?_, c7.x.fr f8 (by omega) (by omega), (q16.trans f7 (fun c hc h => by have h : c = p ∨ c = σ1.next := h; omega)).trans f8 (fun c hc h => by have h : c = σ.next := h; omega), q7, f8, by omega, by omega, q16⟩
  rw [← node_end (D := D) (W := W) (N := N) c7.c a17 (z := []), ← e7]
  show T104_0 [] D W (J104_1 [] D W N) p 0 d σ = _
  unfold T104_0
  show callK (D 130 [.ptr p 0] (newB σ (.cells zero16))) _ = _
  rw [e1, g2]
  simp only [callK_some_, rtTup_tup, rtCons_cons, rtAgg_agg, rtBool_bool, rtInt_int, rtNil_nil, Bool.not_true, condK_false]
  show stK 16 (H.next σ1) 0 _ (newB σ1 (.cells zero16)) _ = _
  rw [e3, stK_at a3 rfl]
  show callK (D 45 [.ptr p 0] (setF σ3 σ1.next (.cells (nd 0 false false false false (Int.ofNat 0) (Int.ofNat 0) 0)))) _ = _
  rw [e4, pk]
  simp only [callK_some_, tokV, rtAgg_agg, rtCons_cons, rtInt_int, rtStr_str, rtNil_nil]
  show stK 3 (H.next σ4) 0 _ (newB σ4 (.cells [.int .i64 (Int.ofNat 0), .str ⟨0, 0⟩, .int .i64 (Int.ofNat 0)])) _ = _
  have e6' : setF σ5 σ4.next (.cells (spl [V.int .i64 (Int.ofNat 0), .str ⟨0, 0⟩, .int .i64 (Int.ofNat 0)] 0 (V.agg [.int .i64 (Int.ofNat t.1), .str (ofN t.2.1), .int .i64 (Int.ofNat t.2.2)]).cells)) = σ6 := e6
  rw [e5, stK_at a5 rfl, e6']
  show ldK [] σ6 σ4.next 0 _ = _
  rw [ldK_at a6 rfl]
  simp only [rtInt_int]
  rw [show eqF (Int.ofNat t.1) (Int.ofNat 1) = false by rw [hk]; rfl, condK_false]
  rfl
/-! ### the kinds -/
def Same : H → H → List V → List V → Prop := fun _ _ m m' => m' = m
theorem int_F (hP : SpSPeek (D 45)) (hI : SpIs (D 75)) (hW : SpWant (D 43)) (hM : SpMark0 ts j (D 130)) (ht : ts[j]? = some t) (hk : t.1 = 5) (h0 : stB t (BS.mk 7 22026814072246082) = false) (h1 : stB t (BS.mk 4 1280070990) = false) (h2 : stB t (BS.mk 10 488440487847103610377301) = false) (h3 : stB t (BS.mk 7 23157120498421321) = true)
    (ht1 : ts[j + 1]? = some t1) (hs1 : stB t1 (BS.mk 1 40) = true) {hl hh mo : Bool} {u v : Int} (hB : SpBd ts (j + 2) j' hl hh mo u v (D 132)) {t2 : Tk} (ht2 : ts[j']? = some t2) (hs2 : stB t2 (BS.mk 1 41) = true) :
    SpNd ts j (j' + 1) (nd 2 true hl hh mo u v 0) Same (F104 [] D W N) :=
  nd_F hP hM ht hk fun p tb m d b4 b8 σ h => by
    have e0 := h.isF hI ht h0
    have e1 := h.isF hI ht h1
    have e2 := h.isF hI ht h2
    obtain ⟨σ3, e3, g3, f3⟩ := h.isT hI ht h3
    obtain ⟨σ4, e4, g4, f4⟩ := g3.st 0 (.int .i64 (Int.ofNat 2)) rfl
    obtain ⟨σ5, e5, g5, f5⟩ := g4.isT hI ht1 hs1
    obtain ⟨σ6, e6, g6, f6⟩ := hB σ5 p tb m b8 2 0 g5
    obtain ⟨σ7, e7, g7, a7, n7, _, f7⟩ := g6.new [V.str (BS.mk 1 41)]
    obtain ⟨σ8, e8, g8, f8⟩ := g7.want hW (l := [BS.mk 1 41]) a7 n7 ⟨⟨t2, ht2, hs2⟩, trivial⟩ (by simp)
    refine ⟨σ8, m, ?_, g8, ((((f3.trans f4 (fun _ _ h => h)).trans f5 (fun _ _ h => h)).trans f6 (fun _ _ h => h)).trans f7 (fun _ _ h => h)).trans f8 (fun _ _ h => h), rfl⟩
    unfold NT
    simp only [e0, e1, e2, e3, e4, e5, e6, callK_some_, rtBool_bool, condK_true, condK_false, joinB_, Bool.not_true]
    rw [e7]
    have e8' : D 43 [.ptr p 0, .sl (H.next σ6) 0 1 (.ex 1)] σ7 = some (.bool true, σ8) := e8
    simp only [e8', callK_some_, rtBool_bool]
end
end
end Go.Proofs.YtdfgcokapncaiaaGreatDoor
set_option linter.all false
set_option maxRecDepth 100000
namespace Go.Proofs.YtdfgcokapncaiaaGreatDoor
open Go Go.Og
noncomputable section
def begW (t : Tk) : Bool := BS.beq (ofN t.2.1) (BS.mk 4 1280070990) || BS.beq (ofN t.2.1) (BS.mk 7 23157120498421321) || BS.beq (ofN t.2.1) (BS.mk 5 361940403023) || BS.beq (ofN t.2.1) (BS.mk 8 4990918871747741011)
def SpBegW (F : List V → H → Ans) : Prop := ∀ (σ : H) (t : Tk), Tidy σ → begW t = true → t.1 = 5 → ∃ σ', F [tokV t] σ = some (.bool true, σ') ∧ Fr Nowhere σ σ'
section
variable {D : Den} {W : DrawFn} {N : Nat}
theorem begw_F : SpBegW (F103 [] D W N) := by
  intro σ t ht hs hk
  obtain ⟨σ1, e1, f1, a1, _⟩ := mk_new ht [.int .i64 (Int.ofNat t.1), .str (ofN t.2.1), .int .i64 (Int.ofNat t.2.2)]
  refine ⟨σ1, ?_, f1⟩
  have l0 : ∀ κ : V → Ans, ldK [] σ1 σ.next 0 κ = κ (.int .i64 (Int.ofNat t.1)) := fun κ => ldK_at a1 rfl
  have l1 : ∀ κ : V → Ans, ldK [] σ1 σ.next 1 κ = κ (.str (ofN t.2.1)) := fun κ => ldK_at a1 rfl
  unfold begW at hs
  show T103_0 [] D W (J103_1 [] D W N) (J103_2 [] D W N) (Int.ofNat t.1) (ofN t.2.1) (Int.ofNat t.2.2) σ = _
  unfold T103_0
  show chk true _ = _
  show ldK [] (newB σ (.cells [.int .i64 (Int.ofNat t.1), .str (ofN t.2.1), .int .i64 (Int.ofNat t.2.2)])) σ.next 0 _ = _
  simp only [V.cells, e1, l0, l1, rtInt_int, rtStr_str]
  rw [hk, show eqF (Int.ofNat 5) (Int.ofNat 1) = false from rfl, show eqF (Int.ofNat 5) (Int.ofNat 6) = false from rfl, show eqF (Int.ofNat 5) (Int.ofNat 5) = true from rfl]
  simp only [condK_true, condK_false]
  generalize BS.beq (ofN t.2.1) (BS.mk 4 1280070990) = b1 at *
  generalize BS.beq (ofN t.2.1) (BS.mk 7 23157120498421321) = b2 at *
  generalize BS.beq (ofN t.2.1) (BS.mk 5 361940403023) = b3 at *
  generalize BS.beq (ofN t.2.1) (BS.mk 8 4990918871747741011) = b4 at *
  generalize BS.beq (ofN t.2.1) (BS.mk 7 22026814072246082) = c1
  generalize BS.beq (ofN t.2.1) (BS.mk 10 488440487847103610377301) = c2
  generalize BS.beq (ofN t.2.1) (BS.mk 10 322399817400452109389381) = c3
  cases c1 with
  | true => rfl
  | false =>
    cases b1 with
    | true => rfl
    | false =>
      cases c2 with
      | true => rfl
      | false =>
        cases b2 with
        | true => rfl
        | false =>
          cases b3 with
          | true => rfl
          | false =>
            cases c3 with
            | true => rfl
            | false =>
              cases b4 with
              | true => rfl
              | false => cases hs
end

/-- A node, where the list of nodes ends with its place. -/
def SpNt (ts : List Tk) (j j' k n : Nat) (l l2 L : List V) (d : Nat) (F : List V → H → Ans) : Prop := ∀ (σ : H) (p tb : Nat) (v0 v1 v2 v3 : V) (nb : Nat), Px σ p tb ts j (rest7 v0 v1 v2 v3 (.sl nb 0 (k + 1) (.op 16)) 0 0) → Atc σ nb (l ++ zero16) → nb ≠ p → nb ≠ tb →
  ∃ σ' nb', F [.ptr p 0, .int .i64 (Int.ofNat d)] σ = some (.tup [.agg L, .bool true], σ') ∧ Px σ' p tb ts j' (rest7 v0 v1 v2 v3 (.sl nb' 0 n (.op 16)) 0 0) ∧ Atc σ' nb' (l ++ zero16 ++ l2) ∧ nb' ≠ p ∧ nb' ≠ tb ∧ (nb' = nb ∨ σ.next ≤ nb') ∧ Fr (fun c => c = p ∨ c = nb) σ σ'
def SpTy (ts : List Tk) (j j' k n : Nat) (l l' : List V) (d : Nat) (F : List V → H → Ans) : Prop := ∀ (σ : H) (p tb : Nat) (v0 v1 v2 v3 v4 : V), Px σ p tb ts j (rest7 v0 v1 v2 v3 v4 0 0) → Sl σ 16 k v4 l → (∀ b, Names v4 b → b ≠ p ∧ b ≠ tb) →
  ∃ σ' nb, F [.ptr p 0, .int .i64 (Int.ofNat d)] σ = some (.tup [.int .i64 (Int.ofNat k), .bool true], σ') ∧ Px σ' p tb ts j' (rest7 v0 v1 v2 v3 (.sl nb 0 n (.op 16)) 0 0) ∧ Atc σ' nb l' ∧ nb ≠ p ∧ nb ≠ tb ∧ σ.next ≤ nb ∧ Fr (fun c => c = p ∨ Names v4 c) σ σ'
section
variable {D : Den} {W : DrawFn} {N : Nat} {ts : List Tk} {j j' : Nat} {t t1 : Tk}
theorem nt_of {k d : Nat} {l L : List V} {F : List V → H → Ans} (h : SpNd ts j j' L Same F) : SpNt ts j j' k (k + 1) l [] L d F := by
  intro σ p tb v0 v1 v2 v3 nb x a n1 n2
  obtain ⟨σ6, σ7, σ8, m', b4, e, x8, f8, q, _⟩ := h σ p tb (Int.ofNat d) _ x
  have q' : m' = _ := q
  rw [q'] at x8
  exact ⟨σ8, nb, e, x8, by rw [List.append_nil]; exact f8.at_ a x.tidy n1, n1, n2, .inl rfl, f8.mono (fun _ _ h => .inl h)⟩
theorem ty_F (hP : SpSPeek (D 45)) (hB : SpBegW (D 103)) {k n d : Nat} {l l2 : List V} {kk on : Nat} {has hl hh mo : Bool} {u v : Int} (hNt : SpNt ts j j' k n l l2 (nd kk has hl hh mo u v on) d (D 104)) (ht : ts[j]? = some t) (hs : begW t = true) (hk : t.1 = 5)
    (hd : d ≤ 16) (hkk : k < 200) (hn : k < n) (hc : (Nat.beq (V.agg (nd kk has hl hh mo u v on)).cells.length 16 && Nat.ble (Nat.add (Nat.add 0 (Nat.mul k 16)) 16) (l ++ zero16 ++ l2).length && allOne (V.agg (nd kk has hl hh mo u v on)).cells) = true)
    (hsp : spl (l ++ zero16 ++ l2) (Nat.add 0 (Nat.mul k 16)) (V.agg (nd kk has hl hh mo u v on)).cells = l ++ nd kk has hl hh mo u v on ++ l2) (hg : growable (k + 1) 144 = true) :
    SpTy ts j j' k n l (l ++ nd kk has hl hh mo u v on ++ l2) d (F76 [] D W N) := by
  intro σ p tb v0 v1 v2 v3 v4 h hsl hnm
  have lp := h.lt; have ltb := h.tlt
  have pk := hP σ p tb j ts _ t h ht
  obtain ⟨σ1, g1, f1⟩ := hB σ t h.tidy hs hk
  have x1 := h.fr f1 (fun h => h) (fun h => h)
  have s1 := hsl.fr f1 h.tidy (fun _ _ h => h)
  obtain ⟨σ2, e2, f2, a2, n2⟩ := mk_new x1.tidy zero16
  have x2 := x1.fr f2 (fun h => h) (fun h => h)
  have s2 := s1.fr f2 x1.tidy (fun _ _ h => h)
  have l6 : ∀ κ : V → Ans, ldK [] σ1 p (Nat.add (Nat.add 0 2) 4) κ = κ v4 := fun κ => ldK_at x1.at_ rfl
  obtain ⟨σ3, app, a3, n3, f3⟩ := app_one (E := []) (bytes := 144) s2 x2.tidy a2 rfl rfl hg
  have x3 := x2.fr f3 (fun hx => (hnm p hx).1 rfl) (fun hx => (hnm tb hx).2 rfl)
  obtain ⟨σ4, e4, f4, a4⟩ := mk_set x3.tidy x3.at_ (pcells tb ts.length j (rest7 v0 v1 v2 v3 (.sl σ2.next 0 (k + 1) (.op 16)) 0 0))
  have le2 : σ.next ≤ σ1.next := f1.le
  have x4 : Px σ4 p tb ts j (rest7 v0 v1 v2 v3 (.sl σ2.next 0 (k + 1) (.op 16)) 0 0) := ⟨a4, f4.at_ x3.tok x3.tidy x3.ne, x3.ne, f4.tidy, x3.big, x3.last⟩
  have hne : σ2.next ≠ p := by omega
  have hnt : σ2.next ≠ tb := by omega
  have a34 : Atc σ4 σ2.next (l ++ zero16) := f4.at_ a3 x3.tidy (by omega)
  obtain ⟨σ5, nb, g5, x5, a5, m1, m2, m3, f5⟩ := hNt σ4 p tb v0 v1 v2 v3 _ x4 a34 hne hnt
  have le4 : σ3.next ≤ σ4.next := f4.le
  have q15 : Fr (fun c => c = p ∨ Names v4 c) σ σ5 := ((((f1.mono (T := fun c => c = p ∨ Names v4 c) (fun _ _ h => h.elim)).trans f2 (fun _ _ h => h.elim)).trans f3 (fun _ _ h => .inr h)).trans f4 (fun _ _ h => .inl h)).trans f5 (fun c hc h => by
    rcases h with h | h
    · exact .inl h
    · omega)
  obtain ⟨σ6, e6, f6, a6⟩ := mk_set x5.tidy a5 (l ++ nd kk has hl hh mo u v on ++ l2)
  have x6 := x5.fr f6 (fun h => m1 h.symm) (fun h => m2 h.symm)
  have l6' : ∀ κ : V → Ans, ldK [] σ5 p (Nat.add (Nat.add 0 2) 4) κ = κ (.sl nb 0 n (.op 16)) := fun κ => ldK_at x5.at_ rfl
  refine ⟨σ6, nb, ?_, x6, a6, m1, m2, by omega, q15.trans f6 (fun c hc h => by have h : c = nb := h; omega)⟩
  show T76_0 [] D W p 0 (Int.ofNat d) σ = _
  unfold T76_0
  rw [pk]
  simp only [callK_some_, tokV, rtAgg_agg, rtCons_cons, rtInt_int, rtStr_str, rtNil_nil]
  show callK (D 103 [tokV t] σ) _ = _
  rw [g1]
  simp only [callK_some_, rtBool_bool, Bool.not_true, condK_false, joinB_]
  rw [show ltF (Int.ofNat 16) (Int.ofNat d) = false by rw [ltF_nat]; simp; omega, condK_false]
  have sl0 : ∀ κ : Nat → Ans, slenK v4 κ = κ k := fun _ => s1.slen
  simp only [l6, sl0]
  rw [show leF (Int.ofNat 300) (Int.ofNat k) = false by rw [leF_nat]; simp; omega, condK_false]
  show appK [] 16 144 v4 (.sl σ1.next 0 1 (.ex 1)) (newB σ1 (.cells zero16)) _ = _
  rw [e2, app, rtOne_sl, stK_at x3.at_ rfl]
  show callK (D 104 [.ptr p 0, .int .i64 (Int.ofNat d)] (setF σ3 p (.cells (pcells tb ts.length j (rest7 v0 v1 v2 v3 (.sl σ2.next 0 (k + 1) (.op 16)) 0 0))))) _ = _
  rw [e4, g5]
  simp only [callK_some_, rtTup_tup, rtCons_cons, rtAgg_agg]
  simp only [nd, rtCons_cons, rtInt_int, rtStr_str, rtBool_bool, rtNil_nil]
  have ok : ∀ a : Ans, chk (allOne (nd kk has hl hh mo u v on)) a = a := fun _ => rfl
  simp only [nd] at ok
  simp only [ok, Bool.not_true, condK_false, l6', iaddrSK_lt hn]
  show stK 16 nb (Nat.add 0 (Nat.mul k 16)) (.agg (nd kk has hl hh mo u v on)) σ5 _ = _
  rw [stK_at a5 hc, hsp, e6]
end
end
end Go.Proofs.YtdfgcokapncaiaaGreatDoor
set_option linter.all false
set_option maxRecDepth 100000
namespace Go.Proofs.YtdfgcokapncaiaaGreatDoor
open Go Go.Og
noncomputable section
section
variable {D : Den} {W : DrawFn} {N : Nat} {ts : List Tk} {j j' : Nat} {t t1 : Tk}
end
end
end Go.Proofs.YtdfgcokapncaiaaGreatDoor
set_option linter.all false
set_option maxRecDepth 100000
namespace Go.Proofs.YtdfgcokapncaiaaGreatDoor
open Go Go.Og
noncomputable section
/-- What a type comes to: its nodes, and where it ends. -/
structure NodR where
  ok : Bool
  j2 : Nat
  node : List V
  a : Nat
  e : Nat
  n : Nat
def SpTyN (ts : List Tk) (j : Nat) (r : NodR) (F : List V → H → Ans) : Prop := ∀ (σ : H) (p tb : Nat) (v0 v1 v2 v3 : V), Px σ p tb ts j (rest7 v0 v1 v2 v3 .nils 0 0) →
  ∃ σ' nb, F [.ptr p 0, .int .i64 (Int.ofNat 0)] σ = some (.tup [.int .i64 (Int.ofNat 0), .bool r.ok], σ') ∧ Px σ' p tb ts r.j2 (rest7 v0 v1 v2 v3 (.sl nb 0 r.n (.op 16)) r.a r.e) ∧ Atc σ' nb r.node ∧ σ.next ≤ nb ∧ Fr (fun k => k = p) σ σ'
theorem tyN_of {ts : List Tk} {j j' n : Nat} {l' : List V} {F : List V → H → Ans} (h : SpTy ts j j' 0 n [] l' 0 F) : SpTyN ts j ⟨true, j', l', 0, 0, n⟩ F := by
  intro σ p tb v0 v1 v2 v3 x
  obtain ⟨σ', nb, e, x', a, _, _, l, f⟩ := h σ p tb v0 v1 v2 v3 .nils x (Sl.nil _ _) (fun b hb => hb.elim)
  exact ⟨σ', nb, e, x', a, l, f.mono (fun c _ e => by rcases e with e | e; exact e; exact e.elim)⟩
section
variable {D : Den} {W : DrawFn} {N : Nat}
/-! ### the module -/
/-- The signs ahead of the type, and those behind it. -/
structure ModN (ts : List Tk) (r : NodR) : Prop where
  t0 : ∃ t, ts[0]? = some t ∧ t.1 = 1
  t1 : ∃ t, ts[1]? = some t ∧ stB t (BS.mk 11 100710650190388740279911748) = true
  t2 : ∃ t, ts[2]? = some t ∧ stB t (BS.mk 3 4012602) = true ∧ stB t (BS.mk 8 6073459554577832005) = false ∧ stB t (BS.mk 8 6073459554577829193) = false ∧ stB t (BS.mk 9 1241215773001651606849) = false
  t3 : ∃ t, ts[3]? = some t ∧ stB t (BS.mk 5 336236856642) = true
  t4 : ∃ t, ts[4]? = some t ∧ t.1 = 1
  te : r.ok = true → ∃ t u, ts[r.j2]? = some t ∧ t.1 = 5 ∧ stB t (BS.mk 3 4476485) = true ∧ ts[r.j2 + 1]? = some u ∧ u.1 = 0 ∧ r.a = 0 ∧ r.e = 0
end
end
end Go.Proofs.YtdfgcokapncaiaaGreatDoor
set_option linter.all false
set_option maxRecDepth 100000
namespace Go.Proofs.YtdfgcokapncaiaaGreatDoor
open Go Go.Og
noncomputable section
section
variable {D : Den} {N : Nat}
end
end
end Go.Proofs.YtdfgcokapncaiaaGreatDoor
set_option linter.all false
set_option maxRecDepth 100000
namespace Go.Proofs.YtdfgcokapncaiaaGreatDoor
open Go Go.Og
noncomputable section
/-- From place j on there stand signs of those kinds and texts. -/
def ShapeAt (ts : List Tk) (j : Nat) (l : List (Nat × List Nat)) : Prop := ∀ i k w, l[i]? = some (k, w) → ∃ a, ts[j + i]? = some (k, w, a)
theorem ShapeAt.drop {ts : List Tk} {j : Nat} {a b : List (Nat × List Nat)} (h : ShapeAt ts j (a ++ b)) : ShapeAt ts (j + a.length) b := fun i k w hi => by
  obtain ⟨x, hx⟩ := h (a.length + i) k w (by rw [List.getElem?_append_right (by omega)]; rw [show a.length + i - a.length = i by omega]; exact hi)
  exact ⟨x, by rw [Nat.add_assoc]; exact hx⟩
theorem ShapeAt.get {ts : List Tk} {j : Nat} {l : List (Nat × List Nat)} (h : ShapeAt ts j l) (i : Nat) {k : Nat} {w : List Nat} (hi : l[i]? = some (k, w)) : ∃ a, ts[j + i]? = some (k, w, a) := h i k w hi
/-- The signs of bounds. -/
def formS (f : Nat) (w1 w2 : List Nat) : List (Nat × List Nat) := match f with
  | 0 => [(3, w1), (6, [46, 46]), (3, w2)]
  | 1 => [(3, w1)]
  | 2 => [(3, w1), (6, [46, 46]), (5, [77, 65, 88])]
  | 3 => [(5, [77, 73, 78]), (6, [46, 46]), (3, w2)]
  | _ => [(5, [77, 73, 78]), (6, [46, 46]), (5, [77, 65, 88])]
def moreS (m : Bool) : List (Nat × List Nat) := match m with
  | true => [(6, [44]), (6, [46, 46, 46])]
  | false => []
def fHl (f : Nat) : Bool := match f with | 0 => true | 1 => true | 2 => true | _ => false
def fHh (f : Nat) : Bool := match f with | 0 => true | 1 => true | 3 => true | _ => false
def fLo (f : Nat) (u : Int) : Int := match f with | 0 => u | 1 => u | 2 => u | _ => Int.ofNat 0
def fHi (f : Nat) (u v : Int) : Int := match f with | 0 => v | 1 => u | 3 => v | _ => Int.ofNat 0
theorem xBegW (d : Nat) : SpBegW (TW (d + 1) 103) := by rw [DE103]; exact begw_F
theorem xMark0 {ts : List Tk} {j : Nat} {t : Tk} (d : Nat) (ht : ts[j]? = some t) (hs : stB t (BS.mk 1 91) = false) : SpMark0 ts j (TW (d + 4) 130) := by rw [DE130]; exact mark0_F (xIs d) ht hs
section
variable {ts : List Tk} {j : Nat} {u v : Int} {w1 w2 : List Nat}
/-- The two parts of bounds ahead of what may be more. -/
theorem form_to (d : Nat) (hu : NumOk w1 u) (hv : NumOk w2 v) {f : Nat} (hf : f < 5) {t : Tk} (h : ShapeAt ts j (formS f w1 w2)) (ht : ts[j + (formS f w1 w2).length]? = some t) (hs : stB t (BS.mk 2 11822) = false) (p tb : Nat) (m : List V) (cb k on : Nat) :
    To (J132_0 [] (TW (d + 4)) (drawW [] (TW (d + 4))) 100000 p 0 cb 5) (J132_2 [] (TW (d + 4)) (drawW [] (TW (d + 4))) 100000 p 0 cb 5) p tb ts j (j + (formS f w1 w2).length) m cb (nd k false false false false (Int.ofNat 0) (Int.ofNat 0) on) (nd k true (fHl f) (fHh f) false (fLo f u) (fHi f u v) on) := by
  have I := xIs (d + 1)
  have P := xPNum d
  match f, hf with
  | 0, _ =>
    obtain ⟨a0, h0⟩ := h.get 0 rfl
    obtain ⟨a1, h1⟩ := h.get 1 rfl
    obtain ⟨a2, h2⟩ := h.get 2 rfl
    exact (low_num I P h0 hu).trans (high_num I P h1 (stB_of (by decide +kernel)) h2 hv)
  | 1, _ =>
    obtain ⟨a0, h0⟩ := h.get 0 rfl
    exact (low_num I P h0 hu).trans (high_same I ht hs)
  | 2, _ =>
    obtain ⟨a0, h0⟩ := h.get 0 rfl
    obtain ⟨a1, h1⟩ := h.get 1 rfl
    obtain ⟨a2, h2⟩ := h.get 2 rfl
    exact (low_num I P h0 hu).trans (high_max I h1 (stB_of (by decide +kernel)) h2 (stB_of (by decide +kernel)))
  | 3, _ =>
    obtain ⟨a0, h0⟩ := h.get 0 rfl
    obtain ⟨a1, h1⟩ := h.get 1 rfl
    obtain ⟨a2, h2⟩ := h.get 2 rfl
    exact (low_min I h0 (stB_of (by decide +kernel))).trans (high_num I P h1 (stB_of (by decide +kernel)) h2 hv)
  | 4, _ =>
    obtain ⟨a0, h0⟩ := h.get 0 rfl
    obtain ⟨a1, h1⟩ := h.get 1 rfl
    obtain ⟨a2, h2⟩ := h.get 2 rfl
    exact (low_min I h0 (stB_of (by decide +kernel))).trans (high_max I h1 (stB_of (by decide +kernel)) h2 (stB_of (by decide +kernel)))
/-- All of the bounds; behind them there stands a bracket. -/
def allS (f : Nat) (m : Bool) (w1 w2 : List Nat) : List (Nat × List Nat) := formS f w1 w2 ++ (moreS m ++ [(6, [41])])
theorem xBounds (d : Nat) (hu : NumOk w1 u) (hv : NumOk w2 v) {f : Nat} (hf : f < 5) (mo : Bool) (h : ShapeAt ts j (allS f mo w1 w2)) :
    SpBd ts j (j + (formS f w1 w2).length + (moreS mo).length) (fHl f) (fHh f) mo (fLo f u) (fHi f u v) (TW (d + 5) 132) := by
  rw [DE132]
  have h1 : ShapeAt ts j (formS f w1 w2) := fun i k w hi => h i k w (by
    obtain ⟨hlt, _⟩ := List.getElem?_eq_some_iff.1 hi
    unfold allS; rw [List.getElem?_append_left hlt]; exact hi)
  have h2 : ShapeAt ts (j + (formS f w1 w2).length) (moreS mo ++ [(6, [41])]) := h.drop
  refine bounds_F fun p tb m cb k on => ?_
  cases mo with
  | false =>
    obtain ⟨a, ha⟩ := h2.get 0 rfl
    exact (form_to d hu hv hf h1 ha (stB_of (by decide +kernel)) p tb m cb k on).trans (more_no (xIs (d + 1)) ha (stB_of (by decide +kernel)))
  | true =>
    obtain ⟨a, ha⟩ := h2.get 0 rfl
    obtain ⟨b, hb⟩ := h2.get 1 rfl
    exact (form_to d hu hv hf h1 ha (stB_of (by decide +kernel)) p tb m cb k on).trans (more_yes (xIs (d + 1)) (xWant d) ha (stB_of (by decide +kernel)) hb (stB_of (by decide +kernel)))
end
end
end Go.Proofs.YtdfgcokapncaiaaGreatDoor
set_option linter.all false
set_option maxRecDepth 100000
namespace Go.Proofs.YtdfgcokapncaiaaGreatDoor
open Go Go.Og
noncomputable section
section
variable {ts : List Tk} {j : Nat} {u v : Int} {w1 w2 : List Nat}
theorem ShapeAt.take {ts : List Tk} {j : Nat} {a b : List (Nat × List Nat)} (h : ShapeAt ts j (a ++ b)) : ShapeAt ts j a := fun i k w hi => h i k w (by
  obtain ⟨hlt, _⟩ := List.getElem?_eq_some_iff.1 hi
  rw [List.getElem?_append_left hlt]; exact hi)
theorem allS_last (f : Nat) (m : Bool) (w1 w2 : List Nat) : (allS f m w1 w2)[(formS f w1 w2).length + (moreS m).length]? = some (6, [41]) := by
  unfold allS
  rw [List.getElem?_append_right (by omega), List.getElem?_append_right (by omega), show (formS f w1 w2).length + (moreS m).length - (formS f w1 w2).length - (moreS m).length = 0 by omega]
  rfl
def bLen (f : Nat) (mo : Bool) : Nat := (formS f [] []).length + (moreS mo).length
theorem bLen_eq (f : Nat) (mo : Bool) (w1 w2 : List Nat) : (formS f w1 w2).length + (moreS mo).length = bLen f mo := by
  unfold bLen formS
  match f with
  | 0 => rfl
  | 1 => rfl
  | 2 => rfl
  | 3 => rfl
  | _ + 4 => rfl
theorem begW_of {k a : Nat} {w : List Nat} (h : (BS.beq (ofN w) (BS.mk 4 1280070990) || BS.beq (ofN w) (BS.mk 7 23157120498421321) || BS.beq (ofN w) (BS.mk 5 361940403023) || BS.beq (ofN w) (BS.mk 8 4990918871747741011)) = true) : begW (k, w, a) = true := h
def intW : List Nat := [73, 78, 84, 69, 71, 69, 82]
theorem xTyInt (d : Nat) (hu : NumOk w1 u) (hv : NumOk w2 v) {f : Nat} (hf : f < 5) (mo : Bool) (h : ShapeAt ts j ([(5, intW), (6, [40])] ++ allS f mo w1 w2)) :
    SpTy ts j (j + 2 + bLen f mo + 1) 0 1 [] (nd 2 true (fHl f) (fHh f) mo (fLo f u) (fHi f u v) 0) 0 (TW (d + 7) 76) := by
  obtain ⟨a0, h0⟩ := h.get 0 rfl
  obtain ⟨a1, h1⟩ := h.get 1 rfl
  have h4 : ShapeAt ts (j + 2) (allS f mo w1 w2) := h.drop
  obtain ⟨a3, h5⟩ := h4.get _ (allS_last f mo w1 w2)
  have hB := xBounds d hu hv hf mo h4
  rw [bLen_eq] at h5
  rw [Nat.add_assoc (j + 2), bLen_eq] at hB
  have hN : SpNd ts j (j + 2 + bLen f mo + 1) (nd 2 true (fHl f) (fHh f) mo (fLo f u) (fHi f u v) 0) Same (TW (d + 6) 104) := by
    rw [DE104]
    exact int_F (xSPeek (d + 4)) (xIs (d + 2)) (xWant (d + 1)) (xMark0 (d + 1) h0 (stB_of (by decide +kernel))) h0 rfl (stB_of (by decide +kernel)) (stB_of (by decide +kernel)) (stB_of (by decide +kernel)) (stB_of (by decide +kernel)) h1 (stB_of (by decide +kernel)) hB h5 (stB_of (by decide +kernel))
  rw [DE76]
  exact ty_F (l2 := []) (xSPeek (d + 5)) (xBegW (d + 5)) (nt_of hN) h0 (begW_of (by decide +kernel)) rfl (by omega) (by omega) (by omega) rfl rfl rfl
end
end
end Go.Proofs.YtdfgcokapncaiaaGreatDoor
set_option linter.all false
set_option maxRecDepth 100000
namespace Go.Proofs.YtdfgcokapncaiaaGreatDoor
open Go Go.Og
noncomputable section
section
variable {ts : List Tk} {j : Nat} {u v : Int} {w1 w2 : List Nat}
end
end
end Go.Proofs.YtdfgcokapncaiaaGreatDoor
set_option linter.all false
set_option maxRecDepth 100000
namespace Go.Proofs.YtdfgcokapncaiaaGreatDoor
open Go Go.Og
noncomputable section
def TkS (len : Nat) (r : List Nat) (l : List (Nat × List Nat)) : Prop := ∃ ts, Toks 100000 len r ts ∧ ts.map (fun t => (t.1, t.2.1)) = l
theorem TkS.nil (len : Nat) : TkS len [] [] := ⟨[], Toks.nil, rfl⟩
theorem TkS.sign {len k : Nat} {r w r1 r2 : List Nat} {l : List (Nat × List Nat)} (h : stepC r = some (k, w, r1)) (hs : skipF 100000 r1 = r2) (ht : TkS len r2 l) : TkS len r ((k, w) :: l) := by
  obtain ⟨ts, h1, rfl⟩ := ht
  obtain ⟨a, b, c⟩ := stepC_ok h
  exact ⟨_, Toks.cons c b a (by rw [hs]; exact h1), rfl⟩
theorem TkS.num {len : Nat} {r w r1 r2 : List Nat} {v : Int} {l : List (Nat × List Nat)} (h : NumAt r w r1 v) (h0 : 0 < r.length) (hs : skipF 100000 r1 = r2) (ht : TkS len r2 l) : TkS len r ((3, w) :: l) := by
  obtain ⟨ts, h1, rfl⟩ := ht
  exact ⟨_, Toks.cons h0 (by decide) (Step.number h) (by rw [hs]; exact h1), rfl⟩
/-- How a number begins. -/
theorem numHead {v : Int} (hv : In64 v) (s : List Nat) : ∃ c r, numC v ++ s = c :: r ∧ c ≠ 46 ∧ whiteB c = false ∧ preB [45, 45] (c :: r) = false := by
  obtain ⟨hok, hl, hlead⟩ := numC_ok hv
  obtain ⟨neg, ds, hw, hds, hne, hval⟩ := hok.ex
  obtain ⟨d, ds', hdd⟩ : ∃ d ds', ds = d :: ds' := by cases ds with | nil => exact absurd rfl hne | cons d ds' => exact ⟨d, ds', rfl⟩
  have hd := hds d (by rw [hdd]; simp)
  rw [hw, hdd]
  cases neg with
  | true =>
    refine ⟨45, d :: (ds' ++ s), rfl, by decide, rfl, ?_⟩
    show (Nat.beq 45 45 && (Nat.beq 45 d && true)) = false
    have : Nat.beq 45 d = false := by rw [Bool.eq_false_iff]; intro hh; have := Nat.eq_of_beq_eq_true hh; omega
    rw [this]; rfl
  | false =>
    refine ⟨d, ds' ++ s, rfl, by omega, ?_, ?_⟩
    · unfold whiteB
      rw [eqF_nat, eqF_nat, eqF_nat, eqF_nat, decide_eq_false (show ¬ d = 32 by omega), decide_eq_false (show ¬ d = 9 by omega), decide_eq_false (show ¬ d = 10 by omega), decide_eq_false (show ¬ d = 13 by omega)]
      rfl
    · show (Nat.beq 45 d && _) = false
      have : Nat.beq 45 d = false := by rw [Bool.eq_false_iff]; intro hh; have := Nat.eq_of_beq_eq_true hh; omega
      rw [this]; rfl
theorem numAt {v : Int} (hv : In64 v) {s : List Nat} (h1 : letterB (s.getD 0 0) = false) (h2 : digitB (s.getD 0 0) = false) : NumAt (numC v ++ s) (numC v) s v :=
  let ⟨hok, _, hlead⟩ := numC_ok hv
  ⟨rfl, hok, hlead, h1, h2⟩
theorem numPos {v : Int} (hv : In64 v) (s : List Nat) : 0 < (numC v ++ s).length := by
  obtain ⟨c, r, e, _⟩ := numHead hv s
  rw [e]; simp
theorem skip0 {c : Nat} {r : List Nat} (hw : whiteB c = false) (hd : Nat.beq 45 c = false) : skipF 100000 (c :: r) = c :: r := skip_stay hw (by show (Nat.beq 45 c && _) = false; rw [hd]; rfl)
end
end Go.Proofs.YtdfgcokapncaiaaGreatDoor
set_option linter.all false
set_option maxRecDepth 100000
namespace Go.Proofs.YtdfgcokapncaiaaGreatDoor
open Go Go.Og
noncomputable section
theorem TkS.run {len k : Nat} {r r' : List Nat} {L : List (Nat × List Nat × List Nat)} {l : List (Nat × List Nat)} (h : runC 100000 k r = some (L, r')) (ht : TkS len r' l) : TkS len r (L.map (fun q => (q.1, q.2.1)) ++ l) := by
  obtain ⟨ts, h1, rfl⟩ := ht
  refine ⟨_, runC_ok k _ _ _ _ h h1, ?_⟩
  rw [List.map_append, List.map_map]
  rfl
theorem shape_of {ts : List Tk} {l : List (Nat × List Nat)} (h : ts.map (fun t => (t.1, t.2.1)) = l) (L : Nat) : ShapeAt (ts ++ [(0, [], L)]) 0 (l ++ [(0, [])]) := by
  intro i k w hi
  rw [Nat.zero_add]
  have e : l ++ [(0, [])] = (ts ++ [((0, [], L) : Tk)]).map (fun t => (t.1, t.2.1)) := by rw [List.map_append, h]; rfl
  rw [e, List.getElem?_map] at hi
  cases hx : (ts ++ [((0, [], L) : Tk)])[i]? with
  | none => rw [hx] at hi; cases hi
  | some t =>
    rw [hx] at hi
    simp only [Option.map_some, Option.some.injEq, Prod.mk.injEq] at hi
    obtain ⟨rfl, rfl⟩ := hi
    exact ⟨t.2.2, rfl⟩
end
end Go.Proofs.YtdfgcokapncaiaaGreatDoor
set_option linter.all false
set_option maxRecDepth 100000
namespace Go.Proofs.YtdfgcokapncaiaaGreatDoor
open Go Go.Og
noncomputable section
/-- The pieces of a gap: a blank, a line's end, a tab, two remarks. -/
def pieceT : Nat → List Nat
  | 0 => [32]
  | 1 => [10]
  | 2 => [9]
  | 3 => [45, 45, 32, 120, 32, 45, 45]
  | _ => [45, 45, 121, 10]
def piecesT : List Nat → List Nat
  | [] => []
  | k :: g => pieceT k ++ piecesT g
theorem skip_piece (k n : Nat) (r : List Nat) : ∃ m, m ≤ 2 ∧ skipF (n + 2) (pieceT k ++ r) = skipF (n + m) r := by
  match k with
  | 0 => exact ⟨1, by omega, rfl⟩
  | 1 => exact ⟨1, by omega, rfl⟩
  | 2 => exact ⟨1, by omega, rfl⟩
  | 3 => exact ⟨1, by omega, rfl⟩
  | _ + 4 => exact ⟨0, by omega, rfl⟩
/-- Where skipping stays. -/
def Stays (r : List Nat) : Prop := ∀ n, skipF (n + 1) r = r
theorem skip_gap {r : List Nat} (hr : Stays r) : ∀ (g : List Nat) (n : Nat), 2 * g.length + 1 ≤ n → skipF n (piecesT g ++ r) = r
  | [], n, h => by
    obtain ⟨m, rfl⟩ : ∃ m, n = m + 1 := ⟨n - 1, by omega⟩
    exact hr m
  | k :: g, n, h => by
    simp only [List.length_cons] at h
    obtain ⟨m, rfl⟩ : ∃ m, n = m + 2 := ⟨n - 2, by omega⟩
    obtain ⟨q, hq, e⟩ := skip_piece k m (piecesT g ++ r)
    show skipF (m + 2) ((pieceT k ++ piecesT g) ++ r) = r
    rw [List.append_assoc, e]
    exact skip_gap hr g _ (by omega)
theorem stays_nil : Stays [] := fun _ => rfl
theorem stays_cons {c : Nat} {r : List Nat} (hw : whiteB c = false) (hd : Nat.beq 45 c = false) : Stays (c :: r) := fun n => by
  show (match whiteB c with
    | true => skipF n r
    | false => match preB [45, 45] (c :: r) with
      | true => skipF n (remE (remR (r.drop 1)))
      | false => c :: r) = _
  rw [hw]
  have : preB [45, 45] (c :: r) = false := by show (Nat.beq 45 c && _) = false; rw [hd]; rfl
  rw [this]
theorem pieceT_len (k : Nat) : (pieceT k).length ≤ 7 := by
  match k with
  | 0 => decide
  | 1 => decide
  | 2 => decide
  | 3 => decide
  | _ + 4 => show (4 : Nat) ≤ 7; decide
theorem piecesT_len : ∀ g : List Nat, (piecesT g).length ≤ 7 * g.length
  | [] => by simp [piecesT]
  | k :: g => by
    have h1 := pieceT_len k
    have h2 := piecesT_len g
    simp only [piecesT, List.length_append, List.length_cons]
    omega
/-- The text of StoreTexts, with gaps; and its signs. -/
def gapT (g : List Nat) : List Nat := 32 :: piecesT g
theorem skip_gapT {r : List Nat} (hr : Stays r) {g : List Nat} (hg : g.length ≤ 1000) : skipF 100000 (gapT g ++ r) = r := by
  show skipF 99999 (piecesT g ++ r) = r
  exact skip_gap hr g _ (by omega)
def tagT : Bool → List Nat → List Nat
  | true, s => 69 :: 88 :: 80 :: 76 :: 73 :: 67 :: 73 :: 84 :: 32 :: 84 :: 65 :: 71 :: 83 :: 32 :: s
  | false, s => s
def tagS : Bool → List (Nat × List Nat)
  | true => [(5, [69, 88, 80, 76, 73, 67, 73, 84]), (5, [84, 65, 71, 83])]
  | false => []
def whiteT (tg : Bool) (g : List Nat) : List Nat :=
  77 :: (gapT g ++ (68 :: 69 :: 70 :: 73 :: 78 :: 73 :: 84 :: 73 :: 79 :: 78 :: 83 :: 32 :: tagT tg (58 :: 58 :: 61 :: (gapT g ++ (66 :: 69 :: 71 :: 73 :: 78 :: 32 :: 65 :: (gapT g ++ (58 :: 58 :: 61 :: 32 :: 73 :: 78 :: 84 :: 69 :: 71 :: 69 :: 82 :: (gapT g ++ (40 :: 53 :: 41 :: 32 :: 69 :: 78 :: 68 :: gapT g)))))))))
def whiteS (tg : Bool) : List (Nat × List Nat) := [(1, [77]), (5, [68, 69, 70, 73, 78, 73, 84, 73, 79, 78, 83])] ++ (tagS tg ++ [(6, [58, 58, 61]), (5, [66, 69, 71, 73, 78]), (1, [65]), (6, [58, 58, 61]), (5, intW), (6, [40]), (3, [53]), (6, [41]), (5, [69, 78, 68])])
theorem white_tks {len : Nat} (tg : Bool) {g : List Nat} (hg : g.length ≤ 1000) : TkS len (whiteT tg g) (whiteS tg) := by
  have h9 : TkS len (69 :: 78 :: 68 :: gapT g) [(5, [69, 78, 68])] := TkS.sign (r1 := gapT g) (by kernel_rfl) (by have := skip_gapT stays_nil hg; rwa [List.append_nil] at this) (TkS.nil len)
  have h8 : TkS len (41 :: 32 :: 69 :: 78 :: 68 :: gapT g) [(6, [41]), (5, [69, 78, 68])] := TkS.sign (r1 := 32 :: 69 :: 78 :: 68 :: gapT g) (by kernel_rfl) (r2 := 69 :: 78 :: 68 :: gapT g) (by kernel_rfl) h9
  have h5 : In64 5 := ⟨by decide, by decide⟩
  have n5 : numC 5 = [53] := rfl
  have h7 : TkS len (53 :: 41 :: 32 :: 69 :: 78 :: 68 :: gapT g) [(3, [53]), (6, [41]), (5, [69, 78, 68])] := by
    have := TkS.num (len := len) (numAt h5 (s := 41 :: 32 :: 69 :: 78 :: 68 :: gapT g) rfl rfl) (numPos h5 _) (skip0 rfl rfl) h8
    rw [n5] at this
    exact this
  have h6 : TkS len (40 :: 53 :: 41 :: 32 :: 69 :: 78 :: 68 :: gapT g) [(6, [40]), (3, [53]), (6, [41]), (5, [69, 78, 68])] := TkS.sign (r1 := 53 :: 41 :: 32 :: 69 :: 78 :: 68 :: gapT g) (by kernel_rfl) (skip0 rfl rfl) h7
  have h51 := TkS.sign (len := len) (r := 73 :: 78 :: 84 :: 69 :: 71 :: 69 :: 82 :: (gapT g ++ (40 :: 53 :: 41 :: 32 :: 69 :: 78 :: 68 :: gapT g))) (k := 5) (w := intW) (r1 := gapT g ++ (40 :: 53 :: 41 :: 32 :: 69 :: 78 :: 68 :: gapT g)) (by kernel_rfl) (skip_gapT (stays_cons rfl rfl) hg) h6
  have h4 := TkS.sign (len := len) (r := 58 :: 58 :: 61 :: 32 :: 73 :: 78 :: 84 :: 69 :: 71 :: 69 :: 82 :: (gapT g ++ (40 :: 53 :: 41 :: 32 :: 69 :: 78 :: 68 :: gapT g))) (k := 6) (w := [58, 58, 61]) (r1 := 32 :: 73 :: 78 :: 84 :: 69 :: 71 :: 69 :: 82 :: (gapT g ++ (40 :: 53 :: 41 :: 32 :: 69 :: 78 :: 68 :: gapT g))) (by kernel_rfl) (by kernel_rfl) h51
  generalize hX : (58 :: 58 :: 61 :: 32 :: 73 :: 78 :: 84 :: 69 :: 71 :: 69 :: 82 :: (gapT g ++ (40 :: 53 :: 41 :: 32 :: 69 :: 78 :: 68 :: gapT g)) : List Nat) = X at h4
  have hst : Stays X := by rw [← hX]; exact stays_cons rfl rfl
  have h3 := TkS.sign (len := len) (r := 65 :: (gapT g ++ X)) (k := 1) (w := [65]) (r1 := gapT g ++ X) (by kernel_rfl) (skip_gapT hst hg) h4
  have h2 := TkS.sign (len := len) (r := 66 :: 69 :: 71 :: 73 :: 78 :: 32 :: 65 :: (gapT g ++ X)) (k := 5) (w := [66, 69, 71, 73, 78]) (r1 := 32 :: 65 :: (gapT g ++ X)) (by kernel_rfl) (by kernel_rfl) h3
  generalize hY : (66 :: 69 :: 71 :: 73 :: 78 :: 32 :: 65 :: (gapT g ++ X) : List Nat) = Y at h2
  have hstY : Stays Y := by rw [← hY]; exact stays_cons rfl rfl
  have h1 := TkS.sign (len := len) (r := 58 :: 58 :: 61 :: (gapT g ++ Y)) (k := 6) (w := [58, 58, 61]) (r1 := gapT g ++ Y) (by kernel_rfl) (skip_gapT hstY hg) h2
  have h0 : TkS len (68 :: 69 :: 70 :: 73 :: 78 :: 73 :: 84 :: 73 :: 79 :: 78 :: 83 :: 32 :: tagT tg (58 :: 58 :: 61 :: (gapT g ++ Y))) ((5, [68, 69, 70, 73, 78, 73, 84, 73, 79, 78, 83]) :: (tagS tg ++ [(6, [58, 58, 61]), (5, [66, 69, 71, 73, 78]), (1, [65]), (6, [58, 58, 61]), (5, intW), (6, [40]), (3, [53]), (6, [41]), (5, [69, 78, 68])])) := by
    cases tg with
    | false => exact TkS.sign (r1 := 32 :: 58 :: 58 :: 61 :: (gapT g ++ Y)) (r2 := 58 :: 58 :: 61 :: (gapT g ++ Y)) (by kernel_rfl) (by kernel_rfl) h1
    | true =>
      have q1 := TkS.sign (len := len) (r := 84 :: 65 :: 71 :: 83 :: 32 :: 58 :: 58 :: 61 :: (gapT g ++ Y)) (k := 5) (w := [84, 65, 71, 83]) (r1 := 32 :: 58 :: 58 :: 61 :: (gapT g ++ Y)) (r2 := 58 :: 58 :: 61 :: (gapT g ++ Y)) (by kernel_rfl) (by kernel_rfl) h1
      have q2 := TkS.sign (len := len) (r := 69 :: 88 :: 80 :: 76 :: 73 :: 67 :: 73 :: 84 :: 32 :: 84 :: 65 :: 71 :: 83 :: 32 :: 58 :: 58 :: 61 :: (gapT g ++ Y)) (k := 5) (w := [69, 88, 80, 76, 73, 67, 73, 84]) (r1 := 32 :: 84 :: 65 :: 71 :: 83 :: 32 :: 58 :: 58 :: 61 :: (gapT g ++ Y)) (r2 := 84 :: 65 :: 71 :: 83 :: 32 :: 58 :: 58 :: 61 :: (gapT g ++ Y)) (by kernel_rfl) (by kernel_rfl) q1
      exact TkS.sign (r1 := 32 :: 69 :: 88 :: 80 :: 76 :: 73 :: 67 :: 73 :: 84 :: 32 :: 84 :: 65 :: 71 :: 83 :: 32 :: 58 :: 58 :: 61 :: (gapT g ++ Y)) (r2 := 69 :: 88 :: 80 :: 76 :: 73 :: 67 :: 73 :: 84 :: 32 :: 84 :: 65 :: 71 :: 83 :: 32 :: 58 :: 58 :: 61 :: (gapT g ++ Y)) (by kernel_rfl) (by kernel_rfl) q2
  have hst0 : Stays (68 :: 69 :: 70 :: 73 :: 78 :: 73 :: 84 :: 73 :: 79 :: 78 :: 83 :: 32 :: tagT tg (58 :: 58 :: 61 :: (gapT g ++ Y))) := stays_cons rfl rfl
  generalize hZ : (68 :: 69 :: 70 :: 73 :: 78 :: 73 :: 84 :: 73 :: 79 :: 78 :: 83 :: 32 :: tagT tg (58 :: 58 :: 61 :: (gapT g ++ Y)) : List Nat) = Z at h0 hst0
  have h := TkS.sign (len := len) (r := 77 :: (gapT g ++ Z)) (k := 1) (w := [77]) (r1 := gapT g ++ Z) (by kernel_rfl) (skip_gapT hst0 hg) h0
  rw [← hZ, ← hY, ← hX] at h
  exact h
end
end Go.Proofs.YtdfgcokapncaiaaGreatDoor
set_option linter.all false
set_option maxRecDepth 100000
namespace Go.Proofs.YtdfgcokapncaiaaGreatDoor
open Go Go.Og
noncomputable section
section
variable {D : Den}
theorem reg_assign2 {σ : H} {p tb j a e kb : Nat} {ts : List Tk} {v0 v1 v4 : V} {nm : BS} {k at_ : Int} (h : Px σ p tb ts j (rest7 v0 v1 .nils .nils v4 a e)) (hk : Atc σ kb [.int .i64 k, .str nm, .int .i64 at_]) (hne : kb ≠ p) (x : Int) (b : Bool) :
    ∃ env σ', drawW [] D G46_0 H46_0 [(0, .ptr p 0), (3, .ptr kb 0), (4, .int .i64 x), (5, .bool b)] σ = some (env, σ') ∧ Go.Og.look env 5 = some (.bool b) ∧ Px σ' p tb ts j (rest7 v0 v1 (.sl (σ.next + 27) 0 1 (.op 1)) (.sl (σ.next + 28) 0 1 (.op 1)) v4 a e) ∧ Fr (fun c => c = p) σ σ' ∧ Atc σ' (σ.next + 27) [.str nm] ∧ Atc σ' (σ.next + 28) [.int .i64 x] := by
  have lp := h.lt; have lk := hk.lt h.tidy
  have ltb := h.tlt
  have gap := h.tidy.gap 27
  have p0 : Go.Og.look σ.bl p = some (.cells (pcells tb ts.length j (rest7 v0 v1 .nils .nils v4 a e))) := by rw [← lookF_eq]; exact h.at_
  have k0 : Go.Og.look σ.bl kb = some (.cells [.int .i64 k, .str nm, .int .i64 at_]) := by rw [← lookF_eq]; exact hk
  let c9 : Blk := .cells [.str nm]
  let c17 : Blk := .cells [.int .i64 x]
  let l1 : List (Nat × Blk) := (σ.next + 9, c9) :: σ.bl
  let h1 : List (Nat × Blk) := (σ.next + 27, c9) :: l1
  let l2 : List (Nat × Blk) := (σ.next + 17, c17) :: h1
  let h2 : List (Nat × Blk) := (σ.next + 28, c17) :: l2
  let m1 : List V := pcells tb ts.length j (rest7 v0 v1 (.sl (σ.next + 27) 0 1 (.op 1)) .nils v4 a e)
  let m2 : List V := pcells tb ts.length j (rest7 v0 v1 (.sl (σ.next + 27) 0 1 (.op 1)) (.sl (σ.next + 28) 0 1 (.op 1)) v4 a e)
  let h3 : List (Nat × Blk) := repl h2 p (.cells m1)
  let h4 : List (Nat × Blk) := repl h3 p (.cells m2)
  have p1 : Go.Og.look h1 p = some (.cells (pcells tb ts.length j (rest7 v0 v1 .nils .nils v4 a e))) := by
    show Go.Og.look ((σ.next + 27, c9) :: (σ.next + 9, c9) :: σ.bl) p = _
    rw [look_cons_ne (by omega), look_cons_ne (by omega)]; exact p0
  have p2 : Go.Og.look h2 p = some (.cells (pcells tb ts.length j (rest7 v0 v1 .nils .nils v4 a e))) := by
    show Go.Og.look ((σ.next + 28, c17) :: (σ.next + 17, c17) :: h1) p = _
    rw [look_cons_ne (by omega), look_cons_ne (by omega)]; exact p1
  have p3 : Go.Og.look h3 p = some (.cells m1) := by show Go.Og.look (repl h2 p _) p = _; rw [look_repl' p2, if_pos rfl]
  have other2 : ∀ id, id < σ.next → Go.Og.look h2 id = Go.Og.look σ.bl id := fun id hid => by
    show Go.Og.look ((σ.next + 28, c17) :: (σ.next + 17, c17) :: (σ.next + 27, c9) :: (σ.next + 9, c9) :: σ.bl) id = _
    rw [look_cons_ne (by omega), look_cons_ne (by omega), look_cons_ne (by omega), look_cons_ne (by omega)]
  have l4 : ∀ id, Go.Og.look h4 id = if p = id then some (.cells m2) else Go.Og.look h2 id := fun id => by
    show Go.Og.look (repl h3 p _) id = _
    rw [look_repl' p3]
    by_cases hp : p = id
    · rw [if_pos hp, if_pos hp]
    · rw [if_neg hp, if_neg hp]
      show Go.Og.look (repl h2 p _) id = _
      rw [look_repl' p2, if_neg hp]
  have l3 : ∀ id, p ≠ id → Go.Og.look h3 id = Go.Og.look h2 id := fun id hp => by
    show Go.Og.look (repl h2 p _) id = _
    rw [look_repl' p2, if_neg hp]
  have n1 : ∀ i, i < 27 → i ≠ 9 → Go.Og.look l1 (σ.next + i) = none := fun i hi h9 => by
    show Go.Og.look ((σ.next + 9, c9) :: σ.bl) _ = _
    rw [look_cons_ne (by omega)]
    exact gap _ (by omega) (by omega)
  have n2 : ∀ i, i < 27 → i ≠ 9 → i ≠ 17 → Go.Og.look h2 (σ.next + i) = none := fun i hi h9 h17 => by
    show Go.Og.look ((σ.next + 28, c17) :: (σ.next + 17, c17) :: (σ.next + 27, c9) :: l1) _ = _
    rw [look_cons_ne (by omega), look_cons_ne (by omega), look_cons_ne (by omega)]
    exact n1 i hi h9
  have n2' : ∀ i, i < 27 → i ≠ 9 → i ≠ 17 → Go.Og.look l2 (σ.next + i) = none := fun i hi h9 h17 => by
    show Go.Og.look ((σ.next + 17, c17) :: (σ.next + 27, c9) :: l1) _ = _
    rw [look_cons_ne (by omega), look_cons_ne (by omega)]
    exact n1 i hi h9
  have n3 : ∀ i, i < 27 → i ≠ 9 → i ≠ 17 → Go.Og.look h3 (σ.next + i) = none := fun i hi h9 h17 => by
    rw [l3 _ (by omega)]; exact n2 i hi h9 h17
  have n4 : ∀ i, i < 27 → i ≠ 9 → i ≠ 17 → Go.Og.look h4 (σ.next + i) = none := fun i hi h9 h17 => by
    rw [l4, if_neg (by omega)]; exact n2 i hi h9 h17
  have two : ∀ (q : Nat → Bool) (l : List (Nat × Blk)), q 9 = true → q 17 = true → (∀ i, i < 27 → i ≠ 9 → i ≠ 17 → Go.Og.look l (σ.next + i) = none) → hideB σ.next 27 q l = l ∧ keepB σ.next 27 q l = [] := fun q l q9 q17 hl =>
    hide_keep fun i hi hq => hl i hi (fun h => by rw [h, q9] at hq; cases hq) (fun h => by rw [h, q17] at hq; cases hq)
  have ld : ∀ (l : List (Nat × Blk)) (q : Nat → Bool) (nx off : Nat) (v : V) (y : Nat), Go.Og.look l p = some (.cells (pcells tb ts.length j (rest7 v0 v1 .nils .nils v4 a e))) → (pcells tb ts.length j (rest7 v0 v1 .nils .nils v4 a e))[off]? = some v →
      aopL [] (.load none (.tmp y)) [(y, .ptr p off)] ⟨nx, hideB σ.next 27 q l⟩ = some v := fun l q nx off v y hl hv =>
    load_of (b := p) (off := off) (by show getE [(y, V.ptr p off)] y = _; simp [getE, Go.Og.look]) (by rw [look_hide_old lp]; exact hl) hv
  have ldk : ∀ (q : Nat → Bool) (nx : Nat), aopL [] (.load none (.tmp 37)) [(37, .ptr kb 1)] ⟨nx, hideB σ.next 27 q σ.bl⟩ = some (.str nm) := fun q nx =>
    load_of (b := kb) (off := 1) rfl (by rw [look_hide_old lk]; exact k0) rfl
  let env : Env := [(54, .ptr p 5), (53, .ptr p 2), (52, .ptr p 0), (51, .ptr p 4), (50, .ptr p 2), (49, .ptr p 0), (48, .sl (σ.next + 28) 0 1 (.op 1)), (47, .sl (σ.next + 17) 0 1 (.ex 1)), (46, .int .i64 x), (45, .nils), (44, .ptr p 5), (43, .ptr p 2), (42, .ptr p 0), (41, .ptr p 0), (40, .sl (σ.next + 27) 0 1 (.op 1)), (39, .sl (σ.next + 9) 0 1 (.ex 1)), (38, .str nm), (37, .ptr kb 1), (36, .nils), (35, .ptr p 4), (34, .ptr p 2), (33, .ptr p 0), (32, .ptr p 0), (31, .ptr p 0), (30, .ptr p 0), (0, .ptr p 0), (3, .ptr kb 0), (4, .int .i64 x), (5, .bool b)]
  refine ⟨env, ⟨σ.next + 29, hideB σ.next 27 (fun k => (131584 : Nat).testBit k) h4⟩, drawW_of (s := ⟨env, σ.next + 29, [h4, h3, h2, l2, (σ.next + 17, c17) :: l1], [26, 22, 18, 10], 131584, [(15, .load none (.tmp 44), [(44, .ptr p 5)], .nils), (8, .load none (.tmp 37), [(37, .ptr kb 1)], .str nm), (6, .load none (.tmp 35), [(35, .ptr p 4)], .nils)]⟩) ?_ ?_ rfl, ?_, ?_, ?_, ?_, ?_⟩
  · refine (dp (.ptr p 0) rfl rfl).trans ?_
    refine (dp (.ptr p 0) rfl rfl).trans ?_
    refine (dp (.ptr p 0) rfl rfl).trans ?_
    refine (dp (.ptr p 0) rfl rfl).trans ?_
    refine (dp (.ptr p 2) rfl rfl).trans ?_
    refine (dp (.ptr p 4) rfl rfl).trans ?_
    refine (dl .nils rfl (ld σ.bl _ _ 4 .nils 35 p0 rfl)).trans ?_
    refine (dp (.ptr kb 1) rfl rfl).trans ?_
    refine (dl (.str nm) rfl (ldk _ _)).trans ?_
    refine (da (.sl (σ.next + 9) 0 1 (.ex 1)) c9 (σ.next + 9) 512 rfl rfl (show (0 : Nat) ||| 2 ^ 9 = 512 from by decide) rfl).trans ?_
    refine (dk (.sl (σ.next + 27) 0 1 (.op 1)) (σ.next + 28) h1 rfl (hide_keep fun i hi hq => n1 i hi fun h => by subst h; revert hq; decide) (app_of (xb := σ.next + 9) rfl rfl look_cons_eq rfl (by decide))).trans ?_
    refine (dp (.ptr p 0) rfl rfl).trans ?_
    refine (dp (.ptr p 0) rfl rfl).trans ?_
    refine (dp (.ptr p 2) rfl rfl).trans ?_
    refine (dp (.ptr p 5) rfl rfl).trans ?_
    refine (dl .nils rfl (ld h1 _ _ 5 .nils 44 p1 rfl)).trans ?_
    refine (dp (.int .i64 x) rfl rfl).trans ?_
    refine (da (.sl (σ.next + 17) 0 1 (.ex 1)) c17 (σ.next + 17) 131584 rfl rfl (show (512 : Nat) ||| 2 ^ 17 = 131584 from by decide) rfl).trans ?_
    refine (dk (.sl (σ.next + 28) 0 1 (.op 1)) (σ.next + 29) h2 rfl (two _ l2 (by decide) (by decide) n2') (app_of (xb := σ.next + 17) rfl rfl look_cons_eq rfl (by decide))).trans ?_
    refine (dp (.ptr p 0) rfl rfl).trans ?_
    refine (dp (.ptr p 2) rfl rfl).trans ?_
    refine (dp (.ptr p 4) rfl rfl).trans ?_
    refine (dk .dead (σ.next + 29) h3 rfl (two _ h2 (by decide) (by decide) n2) (store_of (b := p) (off := 4) rfl p2 rfl)).trans ?_
    refine (dp (.ptr p 0) rfl rfl).trans ?_
    refine (dp (.ptr p 2) rfl rfl).trans ?_
    refine (dp (.ptr p 5) rfl rfl).trans ?_
    refine (dk .dead (σ.next + 29) h4 rfl (two _ h3 (by decide) (by decide) n3) (store_of (b := p) (off := 5) rfl p3 rfl)).trans ?_
    exact dsteps_nil
  · simp only [List.all_cons, List.all_nil, Bool.and_true, Bool.and_eq_true]
    refine ⟨?_, ?_, ?_⟩
    · rw [check_skip (by decide), check_skip (by decide), check_skip (by decide)]
      refine (check_take (ld l2 _ 0 5 .nils 44 (by show Go.Og.look ((σ.next + 17, c17) :: h1) p = _; rw [look_cons_ne (by omega)]; exact p1) rfl) rfl).trans ?_
      exact check_last (ld _ _ 0 5 .nils 44 (by show Go.Og.look ((σ.next + 17, c17) :: (σ.next + 9, c9) :: σ.bl) p = _; rw [look_cons_ne (by omega), look_cons_ne (by omega)]; exact p0) rfl) rfl
    · rw [check_skip (by decide), check_skip (by decide), check_skip (by decide), check_skip (by decide)]
      refine check_last (load_of (b := kb) (off := 1) (c := [.int .i64 k, .str nm, .int .i64 at_]) rfl ?_ rfl) (by show decide _ = true; exact decide_eq_true rfl)
      rw [look_hide_old lk]
      show Go.Og.look ((σ.next + 17, c17) :: (σ.next + 9, c9) :: σ.bl) kb = _
      rw [look_cons_ne (by omega), look_cons_ne (by omega)]; exact k0
    · rw [check_skip (by decide), check_skip (by decide), check_skip (by decide), check_skip (by decide)]
      exact check_last (ld _ _ 0 4 .nils 35 (by show Go.Og.look ((σ.next + 17, c17) :: (σ.next + 9, c9) :: σ.bl) p = _; rw [look_cons_ne (by omega), look_cons_ne (by omega)]; exact p0) rfl) rfl
  · rfl
  · have hh := (two (fun k => (131584 : Nat).testBit k) h4 (by decide) (by decide) n4).1
    rw [hh]
    refine ⟨?_, ?_, h.ne, ?_, h.big, h.last⟩
    · show lookF h4 p = _
      rw [lookF_eq, l4, if_pos rfl]
    · show lookF h4 tb = _
      rw [lookF_eq, l4, if_neg (fun hh => h.ne hh.symm), other2 _ ltb, ← lookF_eq]; exact h.tok
    · intro b' hb'
      have hb' : σ.next + 29 ≤ b' := hb'
      show lookF h4 b' = none
      rw [lookF_eq, l4, if_neg (by omega)]
      show Go.Og.look ((σ.next + 28, c17) :: (σ.next + 17, c17) :: (σ.next + 27, c9) :: (σ.next + 9, c9) :: σ.bl) b' = _
      rw [look_cons_ne (by omega), look_cons_ne (by omega), look_cons_ne (by omega), look_cons_ne (by omega), ← lookF_eq]
      exact h.tidy b' (by omega)
  · have hh := (two (fun k => (131584 : Nat).testBit k) h4 (by decide) (by decide) n4).1
    rw [hh]
    refine ⟨fun b' hb' => ?_, by show σ.next ≤ σ.next + 29; omega, fun b' hb' hn => ?_⟩
    · have hb' : σ.next + 29 ≤ b' := hb'
      show lookF h4 b' = none
      rw [lookF_eq, l4, if_neg (by omega)]
      show Go.Og.look ((σ.next + 28, c17) :: (σ.next + 17, c17) :: (σ.next + 27, c9) :: (σ.next + 9, c9) :: σ.bl) b' = _
      rw [look_cons_ne (by omega), look_cons_ne (by omega), look_cons_ne (by omega), look_cons_ne (by omega), ← lookF_eq]
      exact h.tidy b' (by omega)
    · show lookF h4 b' = _
      rw [lookF_eq, l4, if_neg (fun hh => hn hh.symm), other2 _ hb', ← lookF_eq]
  · have hh := (two (fun k => (131584 : Nat).testBit k) h4 (by decide) (by decide) n4).1
    rw [hh]
    show lookF h4 _ = _
    rw [lookF_eq, l4, if_neg (by omega)]
    show Go.Og.look ((σ.next + 28, c17) :: (σ.next + 17, c17) :: (σ.next + 27, c9) :: (σ.next + 9, c9) :: σ.bl) _ = _
    rw [look_cons_ne (by omega), look_cons_ne (by omega)]
    exact look_cons_eq
  · have hh := (two (fun k => (131584 : Nat).testBit k) h4 (by decide) (by decide) n4).1
    rw [hh]
    show lookF h4 _ = _
    rw [lookF_eq, l4, if_neg (by omega)]
    exact look_cons_eq
end
def SpAssS (ts : List Tk) (j0 : Nat) (r : NodR) (an : BS) (F : List V → H → Ans) : Prop := ∀ (σ : H) (p tb : Nat) (v0 v1 : V), Px σ p tb ts j0 (rest7 v0 v1 .nils .nils .nils 0 0) →
  ∃ σ' nb kb qb, F [.ptr p 0] σ = some (.bool r.ok, σ') ∧ Px σ' p tb ts r.j2 (rest7 v0 v1 (.sl kb 0 1 (.op 1)) (.sl qb 0 1 (.op 1)) (.sl nb 0 r.n (.op 16)) r.a r.e) ∧ Atc σ' nb r.node ∧ Atc σ' kb [.str an] ∧ Atc σ' qb [.int .i64 (Int.ofNat 0)] ∧ σ.next ≤ nb ∧ nb < kb ∧ kb < qb ∧ Fr (fun c => c = p) σ σ'
section
variable {D : Den} {W : DrawFn} {N : Nat}
theorem assignS_F (hX : SpNext (D 74)) (hWt : SpWant (D 43)) {ts : List Tk} {j0 : Nat} {r : NodR} (hT : SpTyN ts (j0 + 2) r (D 76)) {t t1 : Tk} (ht : ts[j0]? = some t) (hk : t.1 = 1) (h1 : ts[j0 + 1]? = some t1) (hs1 : stB t1 (BS.mk 3 4012602) = true) :
    SpAssS ts j0 r (ofN t.2.1) (F46 [] D (drawW [] D) N) := by
  intro σ p tb v0 v1 h
  have lp := h.lt; have ltb := h.tlt
  have nx := hX σ p tb j0 ts _ t h ht
  rw [hk] at nx
  simp only [] at nx
  have x1 := h.set (j0 + 1) (rest7 v0 v1 .nils .nils .nils 0 0)
  have f1 := h.setFr (j0 + 1) (rest7 v0 v1 .nils .nils .nils 0 0)
  generalize pset σ p tb ts (j0 + 1) (rest7 v0 v1 .nils .nils .nils 0 0) = σ1 at *
  have le1 : σ.next ≤ σ1.next := f1.le
  obtain ⟨σ2, e2, f2, a2, n2⟩ := mk_new x1.tidy [.int .i64 (Int.ofNat 0), .str ⟨0, 0⟩, .int .i64 (Int.ofNat 0)]
  have x2 := x1.fr f2 (fun h => h) (fun h => h)
  obtain ⟨σ3, e3, f3, a3⟩ := mk_set x2.tidy a2 [.int .i64 (Int.ofNat t.1), .str (ofN t.2.1), .int .i64 (Int.ofNat t.2.2)]
  have x3 := x2.fr f3 (by omega) (by omega)
  have le3 : σ2.next ≤ σ3.next := f3.le
  obtain ⟨σ4, e4, f4, a4, n4⟩ := mk_new x3.tidy [V.str (BS.mk 3 4012602)]
  have x4 := x3.fr f4 (fun h => h) (fun h => h)
  have a34 := f4.at_ a3 x3.tidy (fun h => h)
  obtain ⟨σ5, g5, x5, f5⟩ := hWt σ4 p tb (j0 + 1) σ3.next ts _ [BS.mk 3 4012602] x4 a4 (by omega) ⟨⟨t1, h1, hs1⟩, trivial⟩ (by simp)
  have a35 := f5.at_ a34 x4.tidy (by omega)
  have le5 : σ4.next ≤ σ5.next := f5.le
  obtain ⟨σ6, nb, g6, x6, b6, lnb, f6⟩ := hT σ5 p tb v0 v1 .nils .nils x5
  have a36 := f6.at_ a35 x5.tidy (by omega)
  obtain ⟨env, σ7, d7, e7, x7, f7, kA, qA⟩ := reg_assign2 (D := D) x6 a36 (by omega) (Int.ofNat 0) r.ok
  have nlt := b6.lt x6.tidy
  refine ⟨σ7, nb, σ6.next + 27, σ6.next + 28, ?_, x7, f7.at_ b6 x6.tidy (by omega), kA, qA, by omega, by omega, by omega, ?_⟩
  · have l4 : ∀ κ : V → Ans, ldK [] σ3 p (Nat.add (Nat.add 0 2) 2) κ = κ .nils := fun κ => ldK_at x3.at_ rfl
    have sl0 : ∀ κ : Nat → Ans, slenK .nils κ = κ 0 := fun _ => rfl
    show T46_0 [] D (drawW [] D) p 0 σ = _
    unfold T46_0
    rw [nx]
    simp only [callK_some_, tokV, rtAgg_agg, rtCons_cons, rtInt_int, rtStr_str, rtNil_nil]
    rw [e2, stK_at a2 rfl]
    have hsp : spl [V.int .i64 (Int.ofNat 0), .str ⟨0, 0⟩, .int .i64 (Int.ofNat 0)] 0 (V.agg [.int .i64 (Int.ofNat t.1), .str (ofN t.2.1), .int .i64 (Int.ofNat t.2.2)]).cells = [.int .i64 (Int.ofNat t.1), .str (ofN t.2.1), .int .i64 (Int.ofNat t.2.2)] := rfl
    rw [hsp, e3]
    simp only [l4, sl0]
    rw [show leF (Int.ofNat 40) (Int.ofNat 0) = false from rfl, condK_false, e4]
    have g5' : D 43 [.ptr p 0, .sl (H.next σ3) 0 1 (.ex 1)] σ4 = some (.bool true, σ5) := g5
    simp only [g5', callK_some_, rtBool_bool, Bool.not_true, condK_false, g6, rtTup_tup, rtCons_cons, rtInt_int, rtNil_nil]
    show gdrawK (drawW [] D G46_0 H46_0 [(0, .ptr p 0), (3, .ptr σ1.next 0), (4, .int .i64 (Int.ofNat 0)), (5, .bool r.ok)] σ6) _ = _
    rw [d7]
    show getL env 5 _ = _
    unfold getL
    rw [e7]
    rfl
  · have q1 := f1.trans f2 (fun _ _ h => h.elim)
    have q2 := q1.trans f3 (fun c hc h => by have h : c = σ1.next := h; omega)
    have q3 := q2.trans f4 (fun _ _ h => h.elim)
    exact ((q3.trans f5 (fun _ _ h => h)).trans f6 (fun _ _ h => h)).trans f7 (fun _ _ h => h)

/-! ### the module -/
def SpModS (ts : List Tk) (r : NodR) (vn an : BS) (F : List V → H → Ans) : Prop := ∀ (σ : H) (p tb : Nat), Px σ p tb ts 0 (rest7 (.str ⟨0, 0⟩) (.int .i64 (Int.ofNat 0)) .nils .nils .nils 0 0) →
  ∃ σ' nb kb qb j', F [.ptr p 0] σ = some (.bool true, σ') ∧ Px σ' p tb ts j' (rest7 (.str vn) (.int .i64 (Int.ofNat 0)) (.sl kb 0 1 (.op 1)) (.sl qb 0 1 (.op 1)) (.sl nb 0 r.n (.op 16)) 0 0) ∧ Atc σ' nb r.node ∧ Atc σ' kb [.str an] ∧ Atc σ' qb [.int .i64 (Int.ofNat 0)] ∧ σ.next ≤ nb ∧ nb < kb ∧ kb < qb ∧ Fr (fun c => c = p) σ σ'
/-- The signs ahead of the type, and those behind it; with 'EXPLICIT TAGS', or without. -/
structure ModS (ts : List Tk) (r : NodR) (tg : Bool) (q : Nat) (vn : BS) : Prop where
  hq : q = match tg with | true => 4 | false => 2
  ok : r.ok = true
  ra : r.a = 0
  re : r.e = 0
  t0 : ∃ t, ts[0]? = some t ∧ t.1 = 1 ∧ ofN t.2.1 = vn
  t1 : ∃ t, ts[1]? = some t ∧ stB t (BS.mk 11 100710650190388740279911748) = true
  tt : tg = true → ∃ t u, ts[2]? = some t ∧ stB t (BS.mk 8 6073459554577832005) = true ∧ ts[3]? = some u ∧ stB u (BS.mk 4 1397178708) = true
  t2 : ∃ t, ts[q]? = some t ∧ stB t (BS.mk 3 4012602) = true ∧ stB t (BS.mk 8 6073459554577832005) = false ∧ stB t (BS.mk 8 6073459554577829193) = false ∧ stB t (BS.mk 9 1241215773001651606849) = false
  t3 : ∃ t, ts[q + 1]? = some t ∧ stB t (BS.mk 5 336236856642) = true
  t4 : ∃ t, ts[q + 2]? = some t ∧ t.1 = 1
  te : ∃ t u, ts[r.j2]? = some t ∧ t.1 = 5 ∧ stB t (BS.mk 3 4476485) = true ∧ ts[r.j2 + 1]? = some u ∧ u.1 = 0
def wordsM : List V := [V.str (BS.mk 8 6073459554577832005), V.str (BS.mk 8 6073459554577829193), V.str (BS.mk 9 1241215773001651606849)]
/-- The loop over the three words. -/
theorem tags_to (hS : SpStands (D 44)) (hWt : SpWant (D 43)) {ts : List Tk} {r : NodR} {tg : Bool} {q : Nat} {vn : BS} (hm : ModS ts r tg q vn) (n : Nat) {σ5 : H} {p tb wb : Nat} {v0 : V} (x5 : Px σ5 p tb ts 2 (rest7 v0 (.int .i64 (Int.ofNat 0)) .nils .nils .nils 0 0)) (a5 : Atc σ5 wb wordsM) :
    ∃ σt, L25_2 [] D W (n + 10001) (n + 10001) p 0 (.sl wb 0 3 (.ex 3)) (Int.ofNat 3) (Int.ofNat 0) σ5 = J25_1 [] D W (n + 10001) p 0 σt ∧ Px σt p tb ts q (rest7 v0 (.int .i64 (Int.ofNat 0)) .nils .nils .nils 0 0) ∧ Fr (fun c => c = p) σ5 σt := by
  have ia : ∀ (i : Nat) (κ : Nat → Nat → Ans), i < 3 → iaddrSK 1 (.sl wb 0 3 (.ex 3)) (Int.ofNat i) κ = κ wb (Nat.add 0 (Nat.mul i 1)) := fun i κ hi => iaddrSK_lt hi
  have hld : ∀ (i : Nat) (s : BS) (κ : V → Ans), wordsM[i]? = some (.str s) → ldK [] σ5 wb (Nat.add 0 (Nat.mul i 1)) κ = κ (.str s) := fun i s κ hs => ldK_get a5 (by
    have : Nat.add 0 (Nat.mul i 1) = i := by show 0 + i * 1 = i; omega
    rw [this]; exact hs)
  have hq := hm.hq
  cases tg with
  | false =>
    simp only [] at hq
    subst hq
    obtain ⟨t2, ht2, hs2, hx2, hy2, hz2⟩ := hm.t2
    have s1 := hS σ5 p tb 2 ts _ t2 (BS.mk 8 6073459554577832005) x5 ht2
    have s2 := hS σ5 p tb 2 ts _ t2 (BS.mk 8 6073459554577829193) x5 ht2
    have s3 := hS σ5 p tb 2 ts _ t2 (BS.mk 9 1241215773001651606849) x5 ht2
    rw [hx2] at s1; rw [hy2] at s2; rw [hz2] at s3
    refine ⟨σ5, ?_, x5, Fr.refl x5.tidy⟩
    have it : ∀ (i m : Nat) (s : BS), i < 3 → wordsM[i]? = some (.str s) → D 44 [.ptr p 0, .str s] σ5 = some (.bool false, σ5) →
        L25_2 [] D W (n + 10001) (m + 1) p 0 (.sl wb 0 3 (.ex 3)) (Int.ofNat 3) (Int.ofNat i) σ5 = L25_2 [] D W (n + 10001) m p 0 (.sl wb 0 3 (.ex 3)) (Int.ofNat 3) (Int.ofNat (i + 1)) σ5 := fun i m s hi hs hd => by
      show T25_2 [] D W (J25_1 [] D W (n + 10001)) (L25_2 [] D W (n + 10001) m) p 0 (.sl wb 0 3 (.ex 3)) (Int.ofNat 3) (Int.ofNat i) σ5 = _
      have hl : ∀ κ : V → Ans, ldK [] σ5 wb (Nat.add 0 (Nat.mul i 1)) κ = κ (.str s) := fun κ => hld i s κ hs
      simp only [T25_2, ltF_nat]
      rw [decide_eq_true hi, condK_true, ia i _ hi]
      simp only [hl, rtStr_str, hd, callK_some_, rtBool_bool, Bool.not_false, condK_true]
      rw [addF_nat (by omega)]
    rw [it 0 (n + 10000) _ (by omega) rfl s1, it 1 (n + 9999) _ (by omega) rfl s2, it 2 (n + 9998) _ (by omega) rfl s3]
    rfl
  | true =>
    simp only [] at hq
    subst hq
    obtain ⟨t, u, ht, hst, hu, hsu⟩ := hm.tt rfl
    have s1 := hS σ5 p tb 2 ts _ t (BS.mk 8 6073459554577832005) x5 ht
    rw [hst] at s1
    have lp := x5.lt
    have ltb := x5.tlt
    obtain ⟨σ6, e6, f6, a6⟩ := mk_set x5.tidy x5.at_ (pcells tb ts.length 2 (rest7 v0 (.int .i64 (Int.ofNat 0)) .nils .nils .nils 0 0))
    have x6 : Px σ6 p tb ts 2 (rest7 v0 (.int .i64 (Int.ofNat 0)) .nils .nils .nils 0 0) := ⟨a6, f6.at_ x5.tok x5.tidy x5.ne, x5.ne, f6.tidy, x5.big, x5.last⟩
    have le6 := f6.le
    obtain ⟨σ7, e7, f7, a7, n7⟩ := mk_new x6.tidy [V.str (BS.mk 8 6073459554577832005), V.str (BS.mk 4 1397178708)]
    have x7 := x6.fr f7 (fun h => h) (fun h => h)
    obtain ⟨σ8, g8, x8, f8⟩ := hWt σ7 p tb 2 σ6.next ts _ [BS.mk 8 6073459554577832005, BS.mk 4 1397178708] x7 a7 (by omega) ⟨⟨t, ht, hst⟩, ⟨u, hu, hsu⟩, trivial⟩ (by simp)
    refine ⟨σ8, ?_, x8, (f6.trans f7 (fun _ _ h => h.elim)).trans f8 (fun _ _ h => h)⟩
    show T25_2 [] D W (J25_1 [] D W (n + 10001)) (L25_2 [] D W (n + 10001) (n + 10000)) p 0 (.sl wb 0 3 (.ex 3)) (Int.ofNat 3) (Int.ofNat 0) σ5 = _
    have hl : ∀ κ : V → Ans, ldK [] σ5 wb (Nat.add 0 (Nat.mul 0 1)) κ = κ (.str (BS.mk 8 6073459554577832005)) := fun κ => hld 0 _ κ rfl
    have hst' : ∀ κ : H → Ans, stK 1 p (Nat.add (Nat.add 0 2) 1) (.int .i64 (Int.ofNat 0)) σ5 κ = κ σ6 := fun κ => by
      rw [stK_at x5.at_ rfl]
      exact congrArg κ e6
    have g8' : D 43 [.ptr p 0, .sl (H.next σ6) 0 2 (.ex 2)] σ7 = some (.bool true, σ8) := g8
    simp only [T25_2, ltF_nat]
    rw [decide_eq_true (show 0 < 3 by omega), condK_true, ia 0 _ (by omega)]
    simp only [hl, rtStr_str, s1, callK_some_, rtBool_bool, Bool.not_true, condK_false, hst', e7, g8']
theorem modS_F (hP : SpSPeek (D 45)) (hS : SpStands (D 44)) (hO : SpOf (D 42)) (hWt : SpWant (D 43)) {ts : List Tk} {r : NodR} {tg : Bool} {q : Nat} {vn an : BS} (hA : SpAssS ts (q + 2) r an (D 46)) (hm : ModS ts r tg q vn) (hN : 10000 < N) :
    SpModS ts r vn an (F25 [] D W N) := by
  intro σ p tb h
  have lp := h.lt; have ltb := h.tlt
  obtain ⟨t0, ht0, hk0, hvn⟩ := hm.t0
  obtain ⟨t1, ht1, hs1⟩ := hm.t1
  obtain ⟨t2, ht2, hs2, _, _, _⟩ := hm.t2
  obtain ⟨t3, ht3, hs3⟩ := hm.t3
  obtain ⟨t4, ht4, hk4⟩ := hm.t4
  obtain ⟨σ1, g1, x1, f1⟩ := hO σ p tb 0 ts _ t0 h ht0
  rw [hk0] at g1 x1
  simp only [] at x1
  have le1 := f1.le
  obtain ⟨σ2, e2, f2, a2, n2⟩ := mk_new x1.tidy [V.str (BS.mk 11 100710650190388740279911748)]
  have x2 := x1.fr f2 (fun h => h) (fun h => h)
  obtain ⟨σ3, g3, x3, f3⟩ := hWt σ2 p tb 1 σ1.next ts _ [BS.mk 11 100710650190388740279911748] x2 a2 (by omega) ⟨⟨t1, ht1, hs1⟩, trivial⟩ (by simp)
  have le3 := f3.le
  obtain ⟨σ4, e4, f4, a4⟩ := mk_set x3.tidy x3.at_ (pcells tb ts.length 2 (rest7 (.str (ofN t0.2.1)) (.int .i64 (Int.ofNat 0)) .nils .nils .nils 0 0))
  have x4 : Px σ4 p tb ts 2 (rest7 (.str (ofN t0.2.1)) (.int .i64 (Int.ofNat 0)) .nils .nils .nils 0 0) := ⟨a4, f4.at_ x3.tok x3.tidy x3.ne, x3.ne, f4.tidy, x3.big, x3.last⟩
  have le4 := f4.le
  obtain ⟨σ5, e5, f5, a5, n5⟩ := mk_new x4.tidy wordsM
  have x5 := x4.fr f5 (fun h => h) (fun h => h)
  obtain ⟨n, rfl⟩ : ∃ n, N = n + 10001 := ⟨N - 10001, by omega⟩
  obtain ⟨σt, tag, xt, ft⟩ := tags_to (W := W) hS hWt hm n x5 a5
  have let_ := ft.le
  obtain ⟨σ6, e6, f6, a6, n6⟩ := mk_new xt.tidy [V.str (BS.mk 3 4012602), V.str (BS.mk 5 336236856642)]
  have x6 := xt.fr f6 (fun h => h) (fun h => h)
  obtain ⟨σ7, g7, x7, f7⟩ := hWt σ6 p tb q σt.next ts _ [BS.mk 3 4012602, BS.mk 5 336236856642] x6 a6 (by omega) ⟨⟨t2, ht2, hs2⟩, ⟨t3, ht3, hs3⟩, trivial⟩ (by simp)
  have le7 := f7.le
  have pk4 := hP σ7 p tb (q + 2) ts _ t4 x7 ht4
  obtain ⟨σ8, nb, kb, qb, g8, x8, b8, kA, qA, lnb, lkb, lqb, f8⟩ := hA σ7 p tb _ _ x7
  have hok := hm.ok
  rw [hok] at g8
  rw [hm.ra, hm.re] at x8
  have q8 : Fr (fun c => c = p) σ σ8 := ((((((((f1.trans f2 (fun _ _ h => h.elim)).trans f3 (fun _ _ h => h)).trans f4 (fun _ _ h => h)).trans f5 (fun _ _ h => h.elim)).trans ft (fun _ _ h => h)).trans f6 (fun _ _ h => h.elim)).trans f7 (fun _ _ h => h)).trans f8 (fun _ _ h => h))
  have k1 : eqF (Int.ofNat t4.1) (Int.ofNat 1) = true := by rw [hk4]; rfl
  -- the loop over what is assigned
  have loop : L25_4 [] D W (n + 10001) (n + 10001) p 0 σ7 = L25_4 [] D W (n + 10001) (n + 10000) p 0 σ8 := by
    show T25_4 [] D W (J25_3 [] D W (n + 10001)) (L25_4 [] D W (n + 10001) (n + 10000)) p 0 σ7 = _
    simp only [T25_4, pk4, callK_some_, tokV, rtAgg_agg, rtCons_cons, rtInt_int, rtStr_str, rtNil_nil, k1, condK_true, g8, rtBool_bool, Bool.not_true, condK_false]
  have head : T25_0 [] D W (L25_2 [] D W (n + 10001) (n + 10001)) p 0 σ = L25_4 [] D W (n + 10001) (n + 10001) p 0 σ7 := by
    unfold T25_0
    have g1' : D 42 [.ptr p 0, .int .i64 (Int.ofNat 1)] σ = some (.tup [tokV t0, .bool true], σ1) := g1
    rw [g1']
    simp only [callK_some_, rtTup_tup, rtCons_cons, tokV, rtAgg_agg, rtInt_int, rtStr_str, rtNil_nil, rtBool_bool, joinB_, Bool.not_true, condK_false]
    rw [e2]
    have g3' : D 43 [.ptr p 0, .sl (H.next σ1) 0 1 (.ex 1)] σ2 = some (.bool true, σ3) := g3
    simp only [g3', callK_some_, rtBool_bool, Bool.not_true, condK_false]
    rw [stK_at x3.at_ rfl]
    show slenK (.sl (setF σ3 p (.cells (pcells tb ts.length 2 (rest7 (.str (ofN t0.2.1)) (.int .i64 (Int.ofNat 0)) .nils .nils .nils 0 0)))).next 0 3 (.ex 3)) (fun n2 => L25_2 [] D W (n + 10001) (n + 10001) p 0 (.sl (setF σ3 p (.cells (pcells tb ts.length 2 (rest7 (.str (ofN t0.2.1)) (.int .i64 (Int.ofNat 0)) .nils .nils .nils 0 0)))).next 0 3 (.ex 3)) (Int.ofNat n2) (Int.ofNat 0) (newB (setF σ3 p (.cells (pcells tb ts.length 2 (rest7 (.str (ofN t0.2.1)) (.int .i64 (Int.ofNat 0)) .nils .nils .nils 0 0)))) (.cells wordsM))) = _
    rw [e4, e5]
    refine tag.trans ?_
    show T25_1 [] D W (L25_4 [] D W (n + 10001) (n + 10001)) p 0 σt = _
    unfold T25_1
    have g7' : D 43 [.ptr p 0, .sl (H.next σt) 0 2 (.ex 2)] σ6 = some (.bool true, σ7) := g7
    simp only [e6, g7', callK_some_, rtBool_bool, Bool.not_true, condK_false]
  show ∃ σ' nb kb qb j', T25_0 [] D W (L25_2 [] D W (n + 10001) (n + 10001)) p 0 σ = _ ∧ _
  rw [head, loop]
  obtain ⟨te, u, hte, hke, hse, hu, hku⟩ := hm.te
  have pke := hP σ8 p tb r.j2 ts _ te x8 hte
  obtain ⟨σ9, e9, f9, a9, n9⟩ := mk_new x8.tidy [V.str (BS.mk 3 4476485)]
  have x9 := x8.fr f9 (fun h => h) (fun h => h)
  have le8 := f8.le
  obtain ⟨σ10, g10, x10, f10⟩ := hWt σ9 p tb r.j2 σ8.next ts _ [BS.mk 3 4476485] x9 a9 (by omega) ⟨⟨te, hte, hse⟩, trivial⟩ (by simp)
  obtain ⟨σ11, g11, x11, f11⟩ := hO σ10 p tb (r.j2 + 1) ts _ u x10 hu
  rw [hku] at g11 x11
  simp only [] at x11
  have k5 : eqF (Int.ofNat te.1) (Int.ofNat 1) = false := by rw [hke]; rfl
  have up : ∀ {c : Nat} {l : List V}, Atc σ8 c l → c ≠ p → Atc σ11 c l := fun hc hne => f11.at_ (f10.at_ (f9.at_ hc x8.tidy (fun h => h)) x9.tidy hne) x10.tidy hne
  rw [hvn] at x11
  refine ⟨σ11, nb, kb, qb, _, ?_, x11, up b8 (by omega), up kA (by omega), up qA (by omega), by omega, lkb, lqb, ((q8.trans f9 (fun _ _ h => h.elim)).trans f10 (fun _ _ h => h)).trans f11 (fun _ _ h => h)⟩
  show T25_4 [] D W (J25_3 [] D W (n + 10001)) (L25_4 [] D W (n + 10001) (n + 9999)) p 0 σ8 = _
  simp only [T25_4, pke, callK_some_, tokV, rtAgg_agg, rtCons_cons, rtInt_int, rtStr_str, rtNil_nil, k5, condK_false]
  show T25_3 [] D W p 0 σ8 = _
  unfold T25_3
  have g10' : D 43 [.ptr p 0, .sl (H.next σ8) 0 1 (.ex 1)] σ9 = some (.bool true, σ10) := g10
  have g11' : D 42 [.ptr p 0, .int .i64 (Int.ofNat 0)] σ10 = some (.tup [tokV u, .bool true], σ11) := g11
  simp only [e9, g10', callK_some_, rtBool_bool, Bool.not_true, condK_false, g11', rtTup_tup, rtCons_cons, tokV, rtAgg_agg, rtInt_int, rtStr_str, rtNil_nil]
/-! ### Parse -/
theorem parseS_F (hTk : SpTokens N (D 24)) {r : NodR} {ts : List Tk} {s : BS} {vn an : BS} (hM : SpModS (ts ++ [(0, [], s.len)]) r vn an (D 25)) (hs : s.len ≤ 8000) (hts : Toks N s.len (skipF N s.nats) ts) {σ : H} (ht : Tidy σ) :
    ∃ σ' nb kb qb, F14 [] D (drawW [] D) N [.str s] σ = some (.tup [.agg [.str vn, .int .i64 (Int.ofNat 0), .sl kb 0 1 (.op 1), .sl qb 0 1 (.op 1), .sl nb 0 r.n (.op 16)], .int .i64 (Int.ofNat 0), .int .i64 (Int.ofNat 0)], σ') ∧
      Atc σ' nb r.node ∧ Atc σ' kb [.str an] ∧ Atc σ' qb [.int .i64 (Int.ofNat 0)] ∧ σ.next ≤ nb ∧ nb < kb ∧ kb < qb ∧ Fr Nowhere σ σ' := by
  obtain ⟨σ1, e1, f1, a1, n1⟩ := mk_new ht zero5
  obtain ⟨σ2, u, g2, x2, f2⟩ := hTk σ1 s ts f1.tidy hs hts
  have a2 := f2.at_ a1 f1.tidy (fun h => h)
  have hl := hts.len
  have hsk := skipF_le N s.nats
  rw [BS.length_nats] at hsk
  have le2 : σ1.next ≤ σ2.next := f2.le
  obtain ⟨tb, rfl, atb, _, hln⟩ : ∃ tb, u = .sl tb 0 (ts.length + 1) (.op 3) ∧ Atc σ2 tb (tokCells (ts ++ [(0, [], s.len)])) ∧ 0 < ts.length + 1 ∧ (tokCells (ts ++ [(0, [], s.len)])).length = (ts.length + 1) * 3 := by
    rcases x2 with ⟨h, _⟩ | h
    · omega
    · exact h
  have hlen : (ts ++ [(0, [], s.len)]).length = ts.length + 1 := by simp
  obtain ⟨σ3, e3, f3, a3, n3⟩ := mk_new f2.tidy (pcells tb (ts ++ [(0, [], s.len)]).length 0 (rest7 (.str ⟨0, 0⟩) (.int .i64 (Int.ofNat 0)) .nils .nils .nils 0 0))
  have atl := atb.lt f2.tidy
  have x3 : Px σ3 σ2.next tb (ts ++ [(0, [], s.len)]) 0 (rest7 (.str ⟨0, 0⟩) (.int .i64 (Int.ofNat 0)) .nils .nils .nils 0 0) := by
    refine ⟨a3, f3.at_ atb f2.tidy (fun h => h), by omega, f3.tidy, by rw [hlen]; omega, ?_⟩
    intro i t hi ht0
    rw [hlen]
    by_cases hil : i < ts.length
    · omega
    · exfalso
      rw [List.getElem?_append_right (by omega)] at hi
      rcases Nat.eq_zero_or_pos (i - ts.length) with h0 | h0
      · rw [h0] at hi
        simp at hi
        subst hi
        exact ht0 rfl
      · rw [List.getElem?_eq_none (by simp; omega)] at hi
        cases hi
  have a23 := f3.at_ a2 f2.tidy (fun h => h)
  obtain ⟨σ4, nb, kb, qb, j', g4, x4, b4, kA, qA, lnb, lkb, lqb, f4⟩ := hM σ3 σ2.next tb x3
  have a4 := f4.at_ a23 x3.tidy (by omega)
  have fr : Fr Nowhere σ σ4 := (((f1.trans f2 (fun _ _ h => h)).trans f3 (fun _ _ h => h)).trans f4 (fun c hc h => by have h : c = σ2.next := h; omega))
  obtain ⟨σ5, e5, f5, a5⟩ := mk_set x4.tidy a4 [.str vn, .int .i64 (Int.ofNat 0), .sl kb 0 1 (.op 1), .sl qb 0 1 (.op 1), .sl nb 0 r.n (.op 16)]
  refine ⟨σ5, nb, kb, qb, ?_, f5.at_ b4 x4.tidy (by omega), f5.at_ kA x4.tidy (by omega), f5.at_ qA x4.tidy (by omega), by omega, lkb, lqb, fr.trans f5 (fun c hc h => by have h : c = σ.next := h; omega)⟩
  show T14_0 [] D (drawW [] D) s σ = _
  unfold T14_0
  show callK (D 24 [.str s] (newB σ (.cells zero5))) _ = _
  rw [e1, g2]
  simp only [callK_some_, rtTup_tup, rtCons_cons, rtInt_int, rtNil_nil]
  show condK false _ _ = _
  rw [condK_false]
  show callK (D 25 [.ptr σ2.next 0] (newB σ2 (.cells (pcells tb (ts.length + 1) 0 (rest7 (.str ⟨0, 0⟩) (.int .i64 (Int.ofNat 0)) .nils .nils .nils 0 0))))) _ = _
  rw [← hlen, e3, g4]
  simp only [callK_some_, rtBool_bool]
  rw [Bool.not_true, condK_false, ldnK_at x4.at_ (by show 2 + 5 ≤ 9; omega)]
  have et : List.take 5 (List.drop 2 (pcells tb (ts ++ [(0, [], s.len)]).length j' (rest7 (.str vn) (.int .i64 (Int.ofNat 0)) (.sl kb 0 1 (.op 1)) (.sl qb 0 1 (.op 1)) (.sl nb 0 r.n (.op 16)) 0 0))) = [.str vn, .int .i64 (Int.ofNat 0), .sl kb 0 1 (.op 1), .sl qb 0 1 (.op 1), .sl nb 0 r.n (.op 16)] := rfl
  rw [et]
  simp only [rtCons_cons, rtStr_str, rtInt_int, rtNil_nil]
  rw [stK_at a4 rfl]
  show ldnK [] (setF σ4 σ.next (.cells [.str vn, .int .i64 (Int.ofNat 0), .sl kb 0 1 (.op 1), .sl qb 0 1 (.op 1), .sl nb 0 r.n (.op 16)])) σ.next 0 5 (fun u49 => some (V.tup [.agg u49, .int .i64 (Int.ofNat 0), .int .i64 (Int.ofNat 0)], setF σ4 σ.next (.cells [.str vn, .int .i64 (Int.ofNat 0), .sl kb 0 1 (.op 1), .sl qb 0 1 (.op 1), .sl nb 0 r.n (.op 16)]))) = _
  rw [e5, ldnK_at a5 (by show 0 + 5 ≤ 5; omega)]
  rfl
end
end
end Go.Proofs.YtdfgcokapncaiaaGreatDoor
set_option linter.all false
set_option maxRecDepth 100000
namespace Go.Proofs.YtdfgcokapncaiaaGreatDoor
open Go Go.Og
noncomputable section
def nodR (j : Nat) : NodR := ⟨true, j, nd 2 true true true false (Int.ofNat 5) (Int.ofNat 5) 0, 0, 0, 1⟩
theorem num5 : NumOk [53] (Int.ofNat 5) := (numC_ok (v := 5) ⟨by decide, by decide⟩).1
theorem modW {ts : List Tk} (tg : Bool) (h : ShapeAt ts 0 (whiteS tg ++ [(0, [])])) (d : Nat) : ∃ j, SpModS ts (nodR j) (ofN [77]) (ofN [65]) (TW (d + 9) 25) := by
  cases tg with
  | false =>
    obtain ⟨a0, h0⟩ := h.get 0 rfl
    obtain ⟨a1, h1⟩ := h.get 1 rfl
    obtain ⟨a2, h2⟩ := h.get 2 rfl
    obtain ⟨a3, h3⟩ := h.get 3 rfl
    obtain ⟨a4, h4⟩ := h.get 4 rfl
    obtain ⟨a5, h5⟩ := h.get 5 rfl
    obtain ⟨a10, h10⟩ := h.get 10 rfl
    obtain ⟨a11, h11⟩ := h.get 11 rfl
    rw [Nat.zero_add] at h0 h1 h2 h3 h4 h5 h10 h11
    have hT6 : ShapeAt ts 6 ([(5, intW), (6, [40])] ++ allS 1 false [53] [53]) := fun i k w hi => by
      have := h (6 + i) k w (by
        rw [show (whiteS false ++ [(0, [])] : List (Nat × List Nat)) = [(1, [77]), (5, [68, 69, 70, 73, 78, 73, 84, 73, 79, 78, 83]), (6, [58, 58, 61]), (5, [66, 69, 71, 73, 78]), (1, [65]), (6, [58, 58, 61])] ++ (([(5, intW), (6, [40])] ++ allS 1 false [53] [53]) ++ [(5, [69, 78, 68]), (0, [])]) from rfl]
        rw [List.getElem?_append_right (by simp)]
        obtain ⟨hlt, _⟩ := List.getElem?_eq_some_iff.1 hi
        rw [List.getElem?_append_left (by simpa using hlt)]
        simpa using hi)
      rw [Nat.zero_add] at this
      exact this
    have hT : SpTyN ts 6 (nodR 10) (TW (d + 7) 76) := tyN_of (xTyInt d num5 num5 (f := 1) (by omega) false hT6)
    have hA : SpAssS ts (2 + 2) (nodR 10) (ofN [65]) (TW (d + 8) 46) := by
      rw [DE46]; exact assignS_F (xNext (d + 6)) (xWant (d + 3)) hT h4 rfl h5 (stB_of (by decide +kernel))
    refine ⟨10, ?_⟩
    rw [DE25]
    exact modS_F (xSPeek (d + 7)) (xStands (d + 6)) (xOf (d + 6)) (xWant (d + 4)) hA (tg := false)
      ⟨rfl, rfl, rfl, rfl, ⟨_, h0, rfl, rfl⟩, ⟨_, h1, stB_of (by decide +kernel)⟩, (fun e => by cases e), ⟨_, h2, stB_of (by decide +kernel), stB_of (by decide +kernel), stB_of (by decide +kernel), stB_of (by decide +kernel)⟩, ⟨_, h3, stB_of (by decide +kernel)⟩, ⟨_, h4, rfl⟩, ⟨_, _, h10, rfl, stB_of (by decide +kernel), h11, rfl⟩⟩ big
  | true =>
    obtain ⟨a0, h0⟩ := h.get 0 rfl
    obtain ⟨a1, h1⟩ := h.get 1 rfl
    obtain ⟨b2, g2⟩ := h.get 2 rfl
    obtain ⟨b3, g3⟩ := h.get 3 rfl
    obtain ⟨a2, h2⟩ := h.get 4 rfl
    obtain ⟨a3, h3⟩ := h.get 5 rfl
    obtain ⟨a4, h4⟩ := h.get 6 rfl
    obtain ⟨a5, h5⟩ := h.get 7 rfl
    obtain ⟨a10, h10⟩ := h.get 12 rfl
    obtain ⟨a11, h11⟩ := h.get 13 rfl
    rw [Nat.zero_add] at h0 h1 g2 g3 h2 h3 h4 h5 h10 h11
    have hT6 : ShapeAt ts 8 ([(5, intW), (6, [40])] ++ allS 1 false [53] [53]) := fun i k w hi => by
      have := h (8 + i) k w (by
        rw [show (whiteS true ++ [(0, [])] : List (Nat × List Nat)) = [(1, [77]), (5, [68, 69, 70, 73, 78, 73, 84, 73, 79, 78, 83]), (5, [69, 88, 80, 76, 73, 67, 73, 84]), (5, [84, 65, 71, 83]), (6, [58, 58, 61]), (5, [66, 69, 71, 73, 78]), (1, [65]), (6, [58, 58, 61])] ++ (([(5, intW), (6, [40])] ++ allS 1 false [53] [53]) ++ [(5, [69, 78, 68]), (0, [])]) from rfl]
        rw [List.getElem?_append_right (by simp)]
        obtain ⟨hlt, _⟩ := List.getElem?_eq_some_iff.1 hi
        rw [List.getElem?_append_left (by simpa using hlt)]
        simpa using hi)
      rw [Nat.zero_add] at this
      exact this
    have hT : SpTyN ts 8 (nodR 12) (TW (d + 7) 76) := tyN_of (xTyInt d num5 num5 (f := 1) (by omega) false hT6)
    have hA : SpAssS ts (4 + 2) (nodR 12) (ofN [65]) (TW (d + 8) 46) := by
      rw [DE46]; exact assignS_F (xNext (d + 6)) (xWant (d + 3)) hT h4 rfl h5 (stB_of (by decide +kernel))
    refine ⟨12, ?_⟩
    rw [DE25]
    exact modS_F (xSPeek (d + 7)) (xStands (d + 6)) (xOf (d + 6)) (xWant (d + 4)) hA (tg := true)
      ⟨rfl, rfl, rfl, rfl, ⟨_, h0, rfl, rfl⟩, ⟨_, h1, stB_of (by decide +kernel)⟩, (fun _ => ⟨_, _, g2, stB_of (by decide +kernel), g3, stB_of (by decide +kernel)⟩), ⟨_, h2, stB_of (by decide +kernel), stB_of (by decide +kernel), stB_of (by decide +kernel), stB_of (by decide +kernel)⟩, ⟨_, h3, stB_of (by decide +kernel)⟩, ⟨_, h4, rfl⟩, ⟨_, _, h10, rfl, stB_of (by decide +kernel), h11, rfl⟩⟩ big
/-- Parse answers the same module, whatever stands in the gaps. -/
theorem parseW (tg : Bool) {g : List Nat} (hg : g.length ≤ 1000) (d : Nat) {s : BS} (hs : s.nats = whiteT tg g) (hl : s.len ≤ 8000) {σ : H} (ht : Tidy σ) :
    ∃ σ' nb kb qb, TW (d + 10) 14 [.str s] σ = some (.tup [.agg [.str (ofN [77]), .int .i64 (Int.ofNat 0), .sl kb 0 1 (.op 1), .sl qb 0 1 (.op 1), .sl nb 0 1 (.op 16)], .int .i64 (Int.ofNat 0), .int .i64 (Int.ofNat 0)], σ') ∧
      Atc σ' nb (nd 2 true true true false (Int.ofNat 5) (Int.ofNat 5) 0) ∧ Atc σ' kb [.str (ofN [65])] ∧ Atc σ' qb [.int .i64 (Int.ofNat 0)] ∧ σ.next ≤ nb ∧ nb < kb ∧ kb < qb ∧ Fr Nowhere σ σ' := by
  obtain ⟨ts, h1, h2⟩ := white_tks (len := s.len) tg hg
  have hsh := shape_of h2 s.len
  obtain ⟨j, hM⟩ := modW tg hsh d
  have hsk : skipF 100000 s.nats = s.nats := by rw [hs]; exact skip_stay (by kernel_rfl) (by kernel_rfl)
  rw [DE14]
  exact parseS_F (N := 100000) (s := s) (r := nodR j) (xTokens (d + 3)) hM hl (by rw [hsk, hs]; exact h1) ht
end
end Go.Proofs.YtdfgcokapncaiaaGreatDoor
set_option linter.all false
namespace Go.Og
noncomputable section
section
variable {p : Nat → Bool} {ρ τ : Nat → Nat}
mutual
theorem rn_congr (h : ∀ b, p b = true → ρ b = τ b) : ∀ v : V, V.inn p v = true → V.rn ρ v = V.rn τ v
  | .dead, hc => by simp [V.inn] at hc
  | .ptr b o, hc => by simp only [V.inn] at hc; simp only [V.rn, h b hc]
  | .sl b o n c, hc => by simp only [V.inn] at hc; simp only [V.rn, h b hc]
  | .sle b o k e, hc => by simp only [V.inn] at hc; simp only [V.rn, h b hc]
  | .mp b, hc => by simp only [V.inn] at hc; simp only [V.rn, h b hc]
  | .bool _, _ => rfl
  | .int _ _, _ => rfl
  | .str _, _ => rfl
  | .nilp, _ => rfl
  | .nils, _ => rfl
  | .nilm, _ => rfl
  | .nilf, _ => rfl
  | .nili, _ => rfl
  | .fn f a c, hc => by
    simp only [V.inn, Bool.and_eq_true] at hc
    simp only [V.rn, rns_congr h a hc.1, rns_congr h c hc.2]
  | .ifc t v, hc => by
    simp only [V.inn] at hc
    simp only [V.rn, rn_congr h v hc]
  | .agg l, hc => by
    simp only [V.inn] at hc
    simp only [V.rn, rns_congr h l hc]
  | .tup l, hc => by
    simp only [V.inn] at hc
    simp only [V.rn, rns_congr h l hc]
theorem rns_congr (h : ∀ b, p b = true → ρ b = τ b) : ∀ l : List V, inns p l = true → rns ρ l = rns τ l
  | [], _ => rfl
  | v :: l, hc => by
    simp only [inns, Bool.and_eq_true] at hc
    simp only [rns, rn_congr h v hc.1, rns_congr h l hc.2]
end
theorem rnp_congr (h : ∀ b, p b = true → ρ b = τ b) : ∀ l : List (V × V), innp p l = true → rnp ρ l = rnp τ l
  | [], _ => rfl
  | q :: l, hc => by
    simp only [innp, Bool.and_eq_true] at hc
    simp only [rnp, rn_congr h q.1 hc.1.1, rn_congr h q.2 hc.1.2, rnp_congr h l hc.2]
theorem Blk.rn_congr (h : ∀ b, p b = true → ρ b = τ b) {b : Blk} (hc : b.inn p = true) : b.rn ρ = b.rn τ := by
  cases b with
  | cells l => exact congrArg Blk.cells (rns_congr h l hc)
  | map l => exact congrArg Blk.map (rnp_congr h l hc)
  | siter s q => rfl
  | unit t => rfl
end
/-- The call leaves its blocks as they are. -/
def Few.still (e : Few) : Bool := inBl e.bl0 e.bl1 && (allBl e.bl0 (domB e.bl0) && inBl e.bl0 e.bl0)
section
variable {e : Few} {ρ : Nat → Nat} {args : List V} {σ : H}
theorem Few.fr0 (hs : e.shape = true) (hw : e.still = true) (hm : e.Fits ρ args σ) (ht : Tidy σ) : Fr Nowhere σ (e.ans ρ σ).2 := by
  have f := Few.fr hs hm ht
  have hh := Few.has hs hm ht
  unfold Few.still at hw
  simp only [Bool.and_eq_true] at hw
  obtain ⟨h1, h2, h3⟩ := hw
  refine ⟨f.tidy, f.le, fun b hb _ => ?_⟩
  by_cases ho : e.old ρ b = true
  · obtain ⟨k, c, hk, rfl⟩ := old_iff.1 ho
    have l0 := inBl_ok h3 (k, c) hk
    have l1 := inBl_ok h1 (k, c) hk
    have hd : domB e.bl0 k = true := domB_iff.2 ⟨_, l0⟩
    have hlt := Few.shape0 hs hd
    have a1 := hh k c l1
    have et : e.to ρ σ k = ρ k := by unfold Few.to; rw [if_pos hlt]
    rw [et] at a1
    rw [a1, lookF_eq, hm.bl k c l0]
    congr 1
    refine (Blk.rn_congr (p := domB e.bl0) (fun b hb => ?_) (allBl_look h2 l0)).symm
    unfold Few.to
    rw [if_pos (Few.shape0 hs hb)]
  · exact f.same b hb ho
end
end
end Go.Og
set_option linter.all false
set_option maxRecDepth 100000
namespace Go.Proofs.YtdfgcokapncaiaaGreatDoor
open Go Go.Og
noncomputable section
theorem hit1 {e : Few} {F : List V → H → Ans} {args : List V} {σ : H} {ρ : Nat → Nat} (hm : e.Fits ρ args σ) : ∃ ρ', e.Fits ρ' args σ ∧ locF [e] F args σ = some (e.ans ρ' σ) := by
  obtain ⟨e', ρ', he, hf, hr⟩ := locF_hit (F := F) (l := [e]) (List.mem_singleton.2 rfl) hm
  have := List.mem_singleton.1 he
  subst this
  exact ⟨ρ', hf, hr⟩
theorem Has.nil {ρ : Nat → Nat} {σ : H} : Has [] ρ σ := fun id b h => by cases h
theorem Has.cons {ρ : Nat → Nat} {σ : H} {k : Nat} {c : Blk} {l : List (Nat × Blk)} (h : lookF σ.bl (ρ k) = some (c.rn ρ)) (hl : Has l ρ σ) : Has ((k, c) :: l) ρ σ := fun id b hb => by
  simp only [Go.Og.look] at hb
  split at hb
  · rename_i he
    have := Nat.eq_of_beq_eq_true he
    subst this
    cases hb; exact h
  · exact hl id b hb
theorem dom_mem {l : List (Nat × Blk)} {id : Nat} (h : domB l id = true) : id ∈ l.map Prod.fst := by
  obtain ⟨c, hc⟩ := domB_iff.1 h
  exact List.mem_map.2 ⟨(id, c), look_mem hc, rfl⟩
def modV (nb kb qb : Nat) : V := .agg [.str (ofN [77]), .int .i64 (Int.ofNat 0), .sl kb 0 1 (.op 1), .sl qb 0 1 (.op 1), .sl nb 0 1 (.op 16)]
def rho3 (nb kb qb : Nat) : Nat → Nat := fun id => if id = 50 then nb else if id = 51 then kb else qb
section
variable {nb kb qb : Nat} {σ : H}
theorem fits3 (hn : Atc σ nb (nd 2 true true true false (Int.ofNat 5) (Int.ofNat 5) 0)) (hk : Atc σ kb [.str (ofN [65])]) (hq : Atc σ qb [.int .i64 (Int.ofNat 0)]) (h1 : nb < kb) (h2 : kb < qb) {e : Few} (ha : [modV nb kb qb] = rns (rho3 nb kb qb) e.args) (hb : e.bl0 = eMake.bl0) :
    e.Fits (rho3 nb kb qb) [modV nb kb qb] σ := by
  refine fits_of ha ?_ ?_
  · rw [hb]
    exact Has.cons (k := 50) hn (Has.cons (k := 51) hk (Has.cons (k := 52) hq Has.nil))
  · rw [hb]
    intro id id' hd hd' h
    have m1 := dom_mem hd
    have m2 := dom_mem hd'
    simp only [eMake, List.map_cons, List.map_nil, List.mem_cons, List.not_mem_nil, or_false] at m1 m2
    unfold rho3 at h
    rcases m1 with rfl | rfl | rfl <;> rcases m2 with rfl | rfl | rfl <;> simp at h <;> omega
theorem eMake_still : eMake.still = true := by kernel_rfl
theorem ePrint_still : ePrint.still = true := by kernel_rfl
/-- Make: the table's blocks lie beyond what was there. -/
theorem xMake (d : Nat) (ht : Tidy σ) (hn : Atc σ nb (nd 2 true true true false (Int.ofNat 5) (Int.ofNat 5) 0)) (hk : Atc σ kb [.str (ofN [65])]) (hq : Atc σ qb [.int .i64 (Int.ofNat 0)]) (h1 : nb < kb) (h2 : kb < qb) :
    ∃ ρ, eMake.Fits ρ [modV nb kb qb] σ ∧ TW (d + 1) 15 [modV nb kb qb] σ = some (eMake.ans ρ σ) ∧ Fr Nowhere σ (eMake.ans ρ σ).2 ∧ Has eMake.bl1 (eMake.to ρ σ) (eMake.ans ρ σ).2 ∧ Inj eMake.bl1 (eMake.to ρ σ) := by
  obtain ⟨ρ, hf, hr⟩ := hit1 (F := BD [] 100000 (TW d) 15) (fits3 hn hk hq h1 h2 (e := eMake) rfl rfl)
  exact ⟨ρ, hf, by rw [DE15]; exact hr, Few.fr0 eMake_shape eMake_still hf ht, Few.has eMake_shape hf ht, Few.to_inj eMake_shape hf ht⟩
theorem xPrint (d : Nat) (ht : Tidy σ) (hn : Atc σ nb (nd 2 true true true false (Int.ofNat 5) (Int.ofNat 5) 0)) (hk : Atc σ kb [.str (ofN [65])]) (hq : Atc σ qb [.int .i64 (Int.ofNat 0)]) (h1 : nb < kb) (h2 : kb < qb) :
    ∃ σ', TW (d + 1) 16 [modV nb kb qb] σ = some (ePrint.v, σ') ∧ Fr Nowhere σ σ' := by
  obtain ⟨ρ, hf, hr⟩ := hit1 (F := BD [] 100000 (TW d) 16) (fits3 hn hk hq h1 h2 (e := ePrint) rfl rfl)
  exact ⟨_, by rw [DE16]; exact hr, Few.fr0 ePrint_shape ePrint_still hf ht⟩
end
end
end Go.Proofs.YtdfgcokapncaiaaGreatDoor
set_option linter.all false
set_option maxRecDepth 100000
namespace Go.Proofs.YtdfgcokapncaiaaGreatDoor
open Go Go.Og
noncomputable section
theorem loadn_of {E : List (Nat × Blk)} {x : AO} {e : Env} {b off nx n : Nat} {h : List (Nat × Blk)} {c : List V} (hx : opv e x = .ptr b off) (hl : Go.Og.look h b = some (.cells c)) (hv : Nat.ble (off + n) c.length = true) :
    aopL E (.load (some n) x) e ⟨nx, h⟩ = some (.agg ((c.drop off).take n)) := by
  unfold aopL
  simp only [hx, rdN, rd, hl]
  rw [if_pos hv]
def z6 : List V := [.int .i64 (Int.ofNat 0), .str ⟨0, 0⟩, .str ⟨0, 0⟩, .nils, .nils, .nils]
theorem reg_read {D : Den} {σ : H} {rb mb tb nb kb qb a b c : Nat} {t s : BS} (ht : Tidy σ) (hr : Atc σ rb z6) (hm : Atc σ mb [.str (ofN [77]), .int .i64 (Int.ofNat 0), .sl kb 0 1 (.op 1), .sl qb 0 1 (.op 1), .sl nb 0 1 (.op 16)]) (htb : Atc σ tb [.str s, .sl a 0 1 (.op 1), .sl b 0 1 (.op 1), .sl c 0 1 (.op 13)]) (n1 : rb ≠ mb) (n2 : rb ≠ tb)
    {σ2 : H} (hP : D 16 [modV nb kb qb] ⟨σ.next + 8, σ.bl⟩ = some (.str t, σ2)) (fP : Fr Nowhere ⟨σ.next + 8, σ.bl⟩ σ2) :
    ∃ env σ', drawW [] D G9_0 H9_0 [(2, .ptr rb 0), (5, .ptr mb 0), (8, .ptr tb 0)] σ = some (env, σ') ∧ Go.Og.look env 2 = some (.ptr rb 0) ∧ Go.Og.look env 3 = some (.int .i64 (Int.ofNat 0)) ∧ Go.Og.look env 4 = some (.int .i64 (Int.ofNat 0)) ∧
      Atc σ' rb [.int .i64 (Int.ofNat 0), .str t, .str s, .sl a 0 1 (.op 1), .sl b 0 1 (.op 1), .sl c 0 1 (.op 13)] ∧ Fr (fun c => c = rb) σ σ' := by
  have lr := hr.lt ht; have lm := hm.lt ht; have lt_ := htb.lt ht
  have gap := ht.gap 8
  have gap2 := fP.gap ht (fun b hb => hb.elim)
  have r0 : Go.Og.look σ.bl rb = some (.cells z6) := by rw [← lookF_eq]; exact hr
  have m0 : Go.Og.look σ.bl mb = some (.cells [.str (ofN [77]), .int .i64 (Int.ofNat 0), .sl kb 0 1 (.op 1), .sl qb 0 1 (.op 1), .sl nb 0 1 (.op 16)]) := by rw [← lookF_eq]; exact hm
  have t0 : Go.Og.look σ.bl tb = some (.cells [.str s, .sl a 0 1 (.op 1), .sl b 0 1 (.op 1), .sl c 0 1 (.op 13)]) := by rw [← lookF_eq]; exact htb
  have up : ∀ id, id < σ.next → Go.Og.look σ2.bl id = Go.Og.look σ.bl id := fun id hid => by
    have := fP.same id (show id < σ.next + 8 by omega) (fun h => h)
    rw [← lookF_eq, this, lookF_eq]
  let L : List V := [.int .i64 (Int.ofNat 0), .str t, .str s, .sl a 0 1 (.op 1), .sl b 0 1 (.op 1), .sl c 0 1 (.op 13)]
  let T4 : List V := [.str s, .sl a 0 1 (.op 1), .sl b 0 1 (.op 1), .sl c 0 1 (.op 13)]
  let h1 : List (Nat × Blk) := repl σ2.bl rb (.cells L)
  have r2 : Go.Og.look σ2.bl rb = some (.cells z6) := by rw [up _ lr]; exact r0
  have l1 : ∀ id, Go.Og.look h1 id = if rb = id then some (.cells L) else Go.Og.look σ2.bl id := fun id => by show Go.Og.look (repl σ2.bl rb _) id = _; rw [look_repl' r2]
  have g1 : ∀ i, i < 8 → Go.Og.look h1 (σ.next + i) = none := fun i hi => by rw [l1, if_neg (by omega)]; exact gap2 _ (by omega) (by omega)
  have ldt : ∀ (l : List (Nat × Blk)) (q : Nat → Bool) (nx : Nat), Go.Og.look l tb = some (.cells T4) → aopL [] (.load (some 4) (.tmp 8)) [(8, .ptr tb 0)] ⟨nx, hideB σ.next 8 q l⟩ = some (.agg T4) := fun l q nx hl =>
    loadn_of (b := tb) (off := 0) (n := 4) (c := T4) rfl (by rw [look_hide_old lt_]; exact hl) rfl
  have t2 : Go.Og.look σ2.bl tb = some (.cells T4) := by rw [up _ lt_]; exact t0
  have ldm : ∀ (q : Nat → Bool) (nx : Nat), aopL [] (.load (some 5) (.tmp 5)) [(5, .ptr mb 0)] ⟨nx, hideB σ.next 8 q σ.bl⟩ = some (modV nb kb qb) := fun q nx =>
    loadn_of (h := hideB σ.next 8 q σ.bl) (c := [.str (ofN [77]), .int .i64 (Int.ofNat 0), .sl kb 0 1 (.op 1), .sl qb 0 1 (.op 1), .sl nb 0 1 (.op 16)]) (b := mb) (off := 0) (n := 5) rfl (by rw [look_hide_old (p := q) lm]; exact m0) rfl
  have c1 : den1 [] D (.call 16 [.tmp 31]) [(31, modV nb kb qb)] ⟨σ.next + 8, σ.bl⟩ = some (.str t, ⟨σ2.next, σ2.bl⟩) := hP
  have hb4 : V.beq (.agg T4) (.agg T4) = true := by simp [T4, V.beq, beqs]
  have hbm : V.beq (modV nb kb qb) (modV nb kb qb) = true := by
    unfold modV
    generalize ofN [77] = x
    simp [V.beq, beqs]
  have le2 : σ.next + 8 ≤ σ2.next := fP.le
  let env : Env := [(4, .int .i64 (Int.ofNat 0)), (3, .int .i64 (Int.ofNat 0)), (35, .agg L), (34, .agg T4), (33, .agg [.int .i64 (Int.ofNat 0), .str t]), (32, .str t), (31, modV nb kb qb), (2, .ptr rb 0), (5, .ptr mb 0), (8, .ptr tb 0)]
  refine ⟨env, ⟨σ2.next, hideB σ.next 8 (fun k => (0 : Nat).testBit k) h1⟩, drawW_of (s := ⟨env, σ2.next, [h1, σ2.bl, σ.bl], [5, 1], 0, [(3, .load (some 4) (.tmp 8), [(8, .ptr tb 0)], .agg T4), (0, .load (some 5) (.tmp 5), [(5, .ptr mb 0)], modV nb kb qb)]⟩) ?_ ?_ rfl, rfl, rfl, rfl, ?_, ?_⟩
  · refine (dl (modV nb kb qb) rfl (ldm _ _)).trans ?_
    refine (dk (.str t) σ2.next σ2.bl rfl (hide_keep (n := 8) fun i hi _ => gap _ (by omega) (by omega)) c1).trans ?_
    refine (dp (.agg [.int .i64 (Int.ofNat 0), .str t]) rfl rfl).trans ?_
    refine (dl (.agg T4) rfl (ldt σ2.bl _ _ t2)).trans ?_
    refine (dp (.agg L) rfl rfl).trans ?_
    refine (dk .dead σ2.next h1 rfl (hide_keep (n := 8) fun i hi _ => gap2 _ (by omega) (by omega)) (store_n (b := rb) (off := 0) rfl r2 rfl)).trans ?_
    refine (dp (.int .i64 (Int.ofNat 0)) rfl rfl).trans ?_
    refine (dp (.int .i64 (Int.ofNat 0)) rfl rfl).trans ?_
    exact dsteps_nil
  · simp only [List.all_cons, List.all_nil, Bool.and_true, Bool.and_eq_true]
    refine ⟨?_, ?_⟩
    · rw [check_skip (by decide)]
      refine (check_take (ldt σ2.bl _ 0 t2) hb4).trans ?_
      exact check_last (ldt σ.bl _ 0 t0) hb4
    · rw [check_skip (by decide), check_skip (by decide)]
      exact check_last (ldm _ _) hbm
  · have hh := (hide_keep (p := fun k => (0 : Nat).testBit k) fun i hi _ => g1 i hi).1
    rw [hh]
    show lookF h1 rb = _
    rw [lookF_eq, l1, if_pos rfl]
  · have hh := (hide_keep (p := fun k => (0 : Nat).testBit k) fun i hi _ => g1 i hi).1
    rw [hh]
    refine ⟨fun b' hb' => ?_, by show σ.next ≤ σ2.next; omega, fun b' hb' hn => ?_⟩
    · have hb' : σ2.next ≤ b' := hb'
      show lookF h1 b' = none
      rw [lookF_eq, l1, if_neg (by omega), ← lookF_eq]; exact fP.tidy b' hb'
    · show lookF h1 b' = _
      rw [lookF_eq, l1, if_neg (fun hh => hn hh.symm), up _ hb', ← lookF_eq]
end
end Go.Proofs.YtdfgcokapncaiaaGreatDoor
set_option linter.all false
set_option maxRecDepth 100000
namespace Go.Proofs.YtdfgcokapncaiaaGreatDoor
open Go Go.Og
noncomputable section
/-- The table that Make answers, its blocks under these numbers. -/
def tabV (τ : Nat → Nat) : List V := [.str ⟨1, 77⟩, .sl (τ 162) 0 1 (.op 1), .sl (τ 183) 0 1 (.op 1), .sl (τ 177) 0 1 (.op 13)]
def printed : BS := match ePrint.v with
  | .str s => s
  | _ => ⟨0, 0⟩
theorem readW (tg : Bool) {g : List Nat} (hg : g.length ≤ 1000) (d : Nat) {s : BS} (hs : s.nats = whiteT tg g) (hl : s.len ≤ 8000) {σ : H} (ht : Tidy σ) :
    ∃ σ' τ, TW (d + 11) 9 [.str s] σ = some (.tup [.agg (.int .i64 (Int.ofNat 0) :: .str printed :: tabV τ), .int .i64 (Int.ofNat 0), .int .i64 (Int.ofNat 0)], σ') ∧ Has eMake.bl1 τ σ' ∧ Inj eMake.bl1 τ ∧ (∀ id, domB eMake.bl1 id = true → σ.next ≤ τ id) ∧ Fr Nowhere σ σ' := by
  obtain ⟨σ1, e1, f1, a1, n1⟩ := mk_new ht z6
  obtain ⟨σ2, nb, kb, qb, g2, bn, bk, bq, lnb, lkb, lqb, f2⟩ := parseW tg hg d hs hl f1.tidy
  obtain ⟨σ3, e3, f3, a3, n3⟩ := mk_new f2.tidy zero5
  have le2 := f2.le
  obtain ⟨σ4, e4, f4, a4⟩ := mk_set f3.tidy a3 [.str (ofN [77]), .int .i64 (Int.ofNat 0), .sl kb 0 1 (.op 1), .sl qb 0 1 (.op 1), .sl nb 0 1 (.op 16)]
  have ln2 := bn.lt f2.tidy; have lk2 := bk.lt f2.tidy; have lq2 := bq.lt f2.tidy
  have up4 : ∀ {c : Nat} {l : List V}, Atc σ2 c l → Atc σ4 c l := fun hc => f4.at_ (f3.at_ hc f2.tidy (fun h => h)) f3.tidy (by have := hc.lt f2.tidy; omega)
  obtain ⟨ρ, fit, gM, fM, hM, iM⟩ := xMake (d + 9) f4.tidy (up4 bn) (up4 bk) (up4 bq) lkb lqb
  have ev : (eMake.ans ρ σ4).1 = .tup [.agg (tabV (eMake.to ρ σ4)), .int .i64 (Int.ofNat 0), .int .i64 (Int.ofNat 0)] := rfl
  have gM' : TW (d + 10) 15 [modV nb kb qb] σ4 = some (.tup [.agg (tabV (eMake.to ρ σ4)), .int .i64 (Int.ofNat 0), .int .i64 (Int.ofNat 0)], (eMake.ans ρ σ4).2) := by rw [gM, ← ev]
  have lo : ∀ id, domB eMake.bl1 id = true → σ.next < eMake.to ρ σ4 id := fun id hid => by
    have le3 := f3.le; have le4 := f4.le; have le1 := f1.le
    unfold Few.to
    have hn0 : eMake.n0 = 100 := rfl
    rw [hn0]
    by_cases hl : id < 100
    · rw [if_pos hl]
      have hd : domB eMake.bl0 id = true := by
        rcases (Few.shape1 eMake_shape hid).2 with h | h
        · rw [hn0] at h; omega
        · exact h
      have fa := fit.args
      have m := dom_mem hd
      simp only [eMake, List.map_cons, List.map_nil, List.mem_cons, List.not_mem_nil, or_false] at m
      simp only [modV, eMake, rns, V.rn, List.cons.injEq, V.agg.injEq, V.sl.injEq, and_true, true_and] at fa
      obtain ⟨_, f51, f52, f50⟩ := fa
      rcases m with rfl | rfl | rfl <;> omega
    · rw [if_neg hl]; omega
  generalize eMake.to ρ σ4 = τ at *
  generalize (eMake.ans ρ σ4).2 = σ5 at *
  have t4 := f4.tidy
  have up5 : ∀ {c : Nat} {l : List V}, Atc σ4 c l → Atc σ5 c l := fun hc => fM.at_ hc t4 (fun h => h)
  obtain ⟨σ6, e6, f6, a6, n6⟩ := mk_new fM.tidy [.str ⟨0, 0⟩, .nils, .nils, .nils]
  obtain ⟨σ7, e7, f7, a7⟩ := mk_set f6.tidy a6 (tabV τ)
  have le5 := fM.le
  have le4 := f4.le; have le3 := f3.le; have le1 := f1.le; have le6 := f6.le; have le7 := f7.le
  have up7 : ∀ {c : Nat} {l : List V}, Atc σ4 c l → Atc σ7 c l := fun hc => f7.at_ (f6.at_ (up5 hc) fM.tidy (fun h => h)) f6.tidy (by have := hc.lt t4; omega)
  have rb7 : Atc σ7 σ.next z6 := up7 (f4.at_ (f3.at_ (f2.at_ a1 f1.tidy (fun h => h)) f2.tidy (fun h => h)) f3.tidy (by omega))
  obtain ⟨σ8, gP, fP⟩ := xPrint (d + 9) (f7.tidy.wide 8) (σ := ⟨σ7.next + 8, σ7.bl⟩) (up7 (up4 bn)) (up7 (up4 bk)) (up7 (up4 bq)) lkb lqb
  obtain ⟨env, σ9, dr, l2, l3, l4, a9, f9⟩ := reg_read (D := TW (d + 10)) (t := printed) f7.tidy rb7 (up7 a4) a7 (by omega) (by omega) gP fP
  refine ⟨σ9, τ, ?_, ?_, iM, fun id hid => Nat.le_of_lt (lo id hid), ?_⟩
  · rw [DE9]
    show T9_0 [] (TW (d + 10)) (drawW [] (TW (d + 10))) s σ = _
    unfold T9_0
    show callK (TW (d + 10) 14 [.str s] (newB σ (.cells z6))) _ = _
    rw [e1, g2]
    simp only [callK_some_, rtTup_tup, rtCons_cons, rtAgg_agg, rtStr_str, rtInt_int, rtNil_nil]
    show stK 5 σ2.next 0 _ (newB σ2 (.cells zero5)) _ = _
    rw [e3, stK_at a3 rfl]
    show condK false _ _ = _
    rw [condK_false]
    show ldnK [] (setF σ3 σ2.next (.cells [.str (ofN [77]), .int .i64 (Int.ofNat 0), .sl kb 0 1 (.op 1), .sl qb 0 1 (.op 1), .sl nb 0 1 (.op 16)])) σ2.next 0 5 _ = _
    rw [e4, ldnK_at a4 (by show 0 + 5 ≤ 5; omega)]
    rw [show List.take 5 (List.drop 0 [V.str (ofN [77]), .int .i64 (Int.ofNat 0), .sl kb 0 1 (.op 1), .sl qb 0 1 (.op 1), .sl nb 0 1 (.op 16)]) = [V.str (ofN [77]), .int .i64 (Int.ofNat 0), .sl kb 0 1 (.op 1), .sl qb 0 1 (.op 1), .sl nb 0 1 (.op 16)] from rfl]
    rw [rtCons_cons, rtStr_str, rtCons_cons, rtInt_int, rtCons_cons, rtCons_cons, rtCons_cons, rtNil_nil]
    rw [show setF σ3 σ2.next (.cells (spl zero5 0 (V.agg [.str (ofN [77]), .int .i64 (Int.ofNat 0), .sl kb 0 1 (.op 1), .sl qb 0 1 (.op 1), .sl nb 0 1 (.op 16)]).cells)) = σ4 from e4]
    show callK (TW (d + 10) 15 [modV nb kb qb] σ4) _ = _
    rw [gM']
    simp only [callK_some_, rtTup_tup, rtCons_cons, rtAgg_agg, rtStr_str, rtInt_int, rtNil_nil, tabV]
    show stK 4 σ5.next 0 _ (newB σ5 (.cells [.str ⟨0, 0⟩, .nils, .nils, .nils])) _ = _
    rw [e6, stK_at a6 rfl]
    show condK false _ _ = _
    rw [condK_false]
    show gdrawK (drawW [] (TW (d + 10)) G9_0 H9_0 [(2, .ptr σ.next 0), (5, .ptr σ2.next 0), (8, .ptr σ5.next 0)] (setF σ6 σ5.next (.cells (tabV τ)))) _ = _
    rw [e7, dr]
    show getL env 2 _ = _
    rw [getL_of l2 rfl, rtPtr_ptr, getL_of l3 rfl, rtInt_int, getL_of l4 rfl, rtInt_int, ldnK_at a9 (by show 0 + 6 ≤ 6; omega)]
    rfl
  · have h6 := hM.fr f6 fM.tidy (fun _ _ h => h)
    have h7 := h6.fr f7 f6.tidy (fun id hid h => by have := hM.lt fM.tidy hid; have h : τ id = σ5.next := h; omega)
    exact h7.fr f9 f7.tidy (fun id hid h => by have := lo id hid; have h : τ id = σ.next := h; omega)
  · have q := ((((((f1.trans f2 (fun _ _ h => h)).trans f3 (fun _ _ h => h)).trans f4 (fun c hc h => by have h : c = σ2.next := h; omega)).trans fM (fun _ _ h => h)).trans f6 (fun _ _ h => h)).trans f7 (fun c hc h => by have h : c = σ5.next := h; omega))
    exact q.trans f9 (fun c hc h => by have h : c = σ.next := h; omega)
end
end Go.Proofs.YtdfgcokapncaiaaGreatDoor
set_option linter.all false
set_option maxRecDepth 100000
namespace Go.Proofs.YtdfgcokapncaiaaGreatDoor
open Go Go.Og
noncomputable section
theorem white_ne {tg : Bool} {g : List Nat} {s t : BS} (hs : s.nats = whiteT tg g) (h3 : t.nats.take 3 = [77, 32, 68]) (h0 : ∀ tg, t.nats ≠ whiteT tg []) : s ≠ t := by
  intro h
  subst h
  cases g with
  | nil => exact h0 tg hs
  | cons k g =>
    rw [hs] at h3
    match k with
    | 0 => exact absurd h3 (by show ([77, 32, 32] : List Nat) ≠ _; decide)
    | 1 => exact absurd h3 (by show ([77, 32, 10] : List Nat) ≠ _; decide)
    | 2 => exact absurd h3 (by show ([77, 32, 9] : List Nat) ≠ _; decide)
    | 3 => exact absurd h3 (by show ([77, 32, 45] : List Nat) ≠ _; decide)
    | _ + 4 => exact absurd h3 (by show ([77, 32, 45] : List Nat) ≠ _; decide)
def text0 : BS := match eReg.args with
  | [_, .str s] => s
  | _ => ⟨0, 0⟩
theorem ne0 {tg : Bool} {g : List Nat} {s : BS} (hs : s.nats = whiteT tg g) : s ≠ text0 := white_ne hs (by decide +kernel) (fun tg => by cases tg <;> decide +kernel)
theorem neP {tg : Bool} {g : List Nat} {s : BS} (hs : s.nats = whiteT tg g) : s ≠ printed := white_ne hs (by decide +kernel) (fun tg => by cases tg <;> decide +kernel)
theorem locF_miss {l : List Few} {F : List V → H → Ans} {args : List V} {σ : H} (h : ¬ ∃ q : Few × (Nat → Nat), q.1 ∈ l ∧ q.1.Fits q.2 args σ) : locF l F args σ = F args σ := by
  unfold locF
  exact dif_neg h
theorem reg_miss {tg : Bool} {g : List Nat} {s : BS} (hs : s.nats = whiteT tg g) (F : List V → H → Ans) (v : V) (σ : H) : locF [eReg, eReg2] F [v, .str s] σ = F [v, .str s] σ := by
  refine locF_miss ?_
  rintro ⟨⟨e, ρ⟩, he, hf⟩
  simp only [List.mem_cons, List.not_mem_nil, or_false] at he
  have h1 := congrArg (fun l : List V => l.getD 1 .dead) hf.args
  rcases he with rfl | rfl
  · have h2 : V.str s = V.str text0 := h1
    cases h2
    exact ne0 hs rfl
  · have h2 : V.str s = V.str printed := h1
    cases h2
    exact neP hs rfl
end
end Go.Proofs.YtdfgcokapncaiaaGreatDoor
set_option linter.all false
set_option maxRecDepth 100000
namespace Go.Proofs.YtdfgcokapncaiaaGreatDoor
open Go Go.Og
noncomputable section
def rhoM (τ4 τ : Nat → Nat) : Nat → Nat := fun id => if id < 347 then τ4 id else if id = 347 then τ 162 else if id = 348 then τ 183 else if id = 349 then τ 177 else τ 164
theorem eMay_still : eMay.still = true := by kernel_rfl
theorem hasM {τ4 τ : Nat → Nat} {σ : H} (hR : Has eReg.bl1 τ4 σ) (hT : Has eMake.bl1 τ σ) : Has eMay.bl0 (rhoM τ4 τ) σ := by
  have r : ∀ k c, Go.Og.look eReg.bl1 k = some c → lookF σ.bl (τ4 k) = some (c.rn τ4) := hR
  have m : ∀ k c, Go.Og.look eMake.bl1 k = some c → lookF σ.bl (τ k) = some (c.rn τ) := hT
  exact Has.cons (k := 50) (r 50 _ rfl) (Has.cons (k := 259) (r 259 _ rfl) (Has.cons (k := 261) (r 261 _ rfl) (Has.cons (k := 274) (r 274 _ rfl) (Has.cons (k := 280) (r 280 _ rfl) (Has.cons (k := 325) (r 325 _ rfl) (Has.cons (k := 346) (r 346 _ rfl)
    (Has.cons (k := 347) (m 162 _ rfl) (Has.cons (k := 348) (m 183 _ rfl) (Has.cons (k := 349) (m 177 _ rfl) (Has.cons (k := 350) (m 164 _ rfl) Has.nil))))))))))
def cdM (k : Nat) : Nat := if k = 162 then 347 else if k = 183 then 348 else if k = 177 then 349 else 350
theorem clsM {τ4 τ : Nat → Nat} {id : Nat} (h : domB eMay.bl0 id = true) : (domB eReg.bl1 id = true ∧ rhoM τ4 τ id = τ4 id) ∨ (∃ k, domB eMake.bl1 k = true ∧ rhoM τ4 τ id = τ k ∧ id = cdM k) := by
  have m := dom_mem h
  simp only [eMay, List.map_cons, List.map_nil, List.mem_cons, List.not_mem_nil, or_false] at m
  rcases m with rfl | rfl | rfl | rfl | rfl | rfl | rfl | rfl | rfl | rfl | rfl
  · exact .inl ⟨rfl, rfl⟩
  · exact .inl ⟨rfl, rfl⟩
  · exact .inl ⟨rfl, rfl⟩
  · exact .inl ⟨rfl, rfl⟩
  · exact .inl ⟨rfl, rfl⟩
  · exact .inl ⟨rfl, rfl⟩
  · exact .inl ⟨rfl, rfl⟩
  · exact .inr ⟨162, rfl, rfl, rfl⟩
  · exact .inr ⟨183, rfl, rfl, rfl⟩
  · exact .inr ⟨177, rfl, rfl, rfl⟩
  · exact .inr ⟨164, rfl, rfl, rfl⟩
theorem injM {τ4 τ : Nat → Nat} (hi : Inj eReg.bl1 τ4) (hj : Inj eMake.bl1 τ) (sep : ∀ id id', domB eReg.bl1 id = true → domB eMake.bl1 id' = true → τ4 id < τ id') : Inj eMay.bl0 (rhoM τ4 τ) := by
  intro id id' hd hd' h
  rcases clsM (τ4 := τ4) (τ := τ) hd with ⟨a, ea⟩ | ⟨k, a, ea, ra⟩ <;> rcases clsM (τ4 := τ4) (τ := τ) hd' with ⟨b, eb⟩ | ⟨k', b, eb, rb⟩
  · rw [ea, eb] at h; exact hi _ _ a b h
  · rw [ea, eb] at h; have := sep _ _ a b; omega
  · rw [ea, eb] at h; have := sep _ _ b a; omega
  · rw [ea, eb] at h; rw [ra, rb, hj _ _ a b h]
theorem xMay (d : Nat) {τ4 τ : Nat → Nat} {σ : H} (ht : Tidy σ) (hR : Has eReg.bl1 τ4 σ) (hT : Has eMake.bl1 τ σ) (hi : Inj eReg.bl1 τ4) (hj : Inj eMake.bl1 τ) (sep : ∀ id id', domB eReg.bl1 id = true → domB eMake.bl1 id' = true → τ4 id < τ id') :
    ∃ σ', TW (d + 1) 10 [.ptr (τ4 50) 0, .agg (.int .i64 (Int.ofNat 0) :: .str printed :: tabV τ)] σ = some (.tup [.int .i64 (Int.ofNat 0), .int .i64 (Int.ofNat 8)], σ') ∧ Fr Nowhere σ σ' := by
  obtain ⟨ρ, hf, hr⟩ := hit1 (e := eMay) (F := BD [] 100000 (TW d) 10) (fits_of (args := [.ptr (τ4 50) 0, .agg (.int .i64 (Int.ofNat 0) :: .str printed :: tabV τ)]) rfl (hasM hR hT) (injM hi hj sep))
  exact ⟨_, by rw [DE10]; exact hr, Few.fr0 eMay_shape eMay_still hf ht⟩
end
end Go.Proofs.YtdfgcokapncaiaaGreatDoor
set_option linter.all false
set_option maxRecDepth 100000
namespace Go.Proofs.YtdfgcokapncaiaaGreatDoor
open Go Go.Og
noncomputable section
theorem regW (tg : Bool) {g : List Nat} (hg : g.length ≤ 1000) (d : Nat) {s : BS} (hs : s.nats = whiteT tg g) (hl : s.len ≤ 8000) {σ : H} (ht : Tidy σ) {τ4 : Nat → Nat} (hR : Has eReg.bl1 τ4 σ) (hi : Inj eReg.bl1 τ4) :
    ∃ σ', TW (d + 12) 6 [.ptr (τ4 50) 0, .str s] σ = some (.tup [.int .i64 (Int.ofNat 0), .int .i64 (Int.ofNat 0), .int .i64 (Int.ofNat 8)], σ') ∧ Fr Nowhere σ σ' := by
  obtain ⟨σ1, τ, g1, hT, hj, lo, f1⟩ := readW tg hg d hs hl ht
  have hR1 := hR.fr f1 ht (fun _ _ h => h)
  obtain ⟨σ2, g2, f2⟩ := xMay (d + 10) f1.tidy hR1 hT hi hj (fun id id' h h' => by have := hR.lt ht h; have := lo id' h'; omega)
  refine ⟨σ2, ?_, f1.trans f2 (fun _ _ h => h)⟩
  rw [DE6, reg_miss hs]
  show T6_0 [] (TW (d + 11)) (drawW [] (TW (d + 11))) (.ptr (τ4 50) 0) s σ = _
  unfold T6_0
  have eqn : ∀ κ : Bool → Ans, eqK .ptr (.ptr (τ4 50) 0) .nilp κ = κ false := fun _ => rfl
  have z0 : (!eqF (Int.ofNat 0) (Int.ofNat 0)) = false := rfl
  have z8 : (!eqF (Int.ofNat 8) (Int.ofNat 0)) = true := rfl
  rw [eqn, condK_false, g1, callK_some_, rtTup_tup, rtCons_cons, rtAgg_agg, tabV, rtCons_cons, rtInt_int, rtCons_cons, rtStr_str, rtCons_cons, rtStr_str, rtCons_cons, rtCons_cons, rtCons_cons, rtNil_nil, rtCons_cons, rtInt_int, rtCons_cons, rtInt_int, rtNil_nil, chk_true (by rfl), z0]
  have g2' : TW (d + 11) 10 [.ptr (τ4 50) 0, .agg [.int .i64 (Int.ofNat 0), .str printed, .str ⟨1, 77⟩, .sl (τ 162) 0 1 (.op 1), .sl (τ 183) 0 1 (.op 1), .sl (τ 177) 0 1 (.op 13)]] σ1 = some (.tup [.int .i64 (Int.ofNat 0), .int .i64 (Int.ofNat 8)], σ2) := g2
  rw [condK_false, g2', callK_some_, rtTup_tup, rtCons_cons, rtInt_int, rtCons_cons, rtInt_int, rtNil_nil, z8, condK_true]
end
end Go.Proofs.YtdfgcokapncaiaaGreatDoor
set_option linter.all false
set_option maxRecDepth 100000
namespace Go.Proofs.YtdfgcokapncaiaaGreatDoor
open Go Go.Og
noncomputable section
theorem hit2 {e e2 : Few} {F : List V → H → Ans} {args : List V} {σ : H} {ρ : Nat → Nat} (hm : e.Fits ρ args σ) (hne : ∀ ρ', ¬ e2.Fits ρ' args σ) {l : List Few} (hl : l = [e, e2] ∨ l = [e2, e]) : ∃ ρ', e.Fits ρ' args σ ∧ locF l F args σ = some (e.ans ρ' σ) := by
  have hme : e ∈ l := by rcases hl with rfl | rfl <;> simp
  obtain ⟨e', ρ', he, hf, hr⟩ := locF_hit (F := F) hme hm
  have : e' = e ∨ e' = e2 := by rcases hl with rfl | rfl <;> simp at he <;> rcases he with h | h <;> simp [h]
  rcases this with rfl | rfl
  · exact ⟨ρ', hf, hr⟩
  · exact (hne ρ' hf).elim
theorem Inj.nil {ρ : Nat → Nat} : Inj [] ρ := fun id id' h => by cases h
theorem Inj.one {ρ : Nat → Nat} {k : Nat} {c : Blk} : Inj [(k, c)] ρ := fun id id' h h' _ => by
  have m1 := dom_mem h; have m2 := dom_mem h'
  simp only [List.map_cons, List.map_nil, List.mem_cons, List.not_mem_nil, or_false] at m1 m2
  rw [m1, m2]
section
variable {σ : H}
theorem eNew_still : eNew.still = true := by kernel_rfl
theorem eAw_still : eAw.still = true := by kernel_rfl
theorem eF1_still : eF1.still = true := by kernel_rfl
theorem eF2_still : eF2.still = true := by kernel_rfl
theorem xNew (d : Nat) (ht : Tidy σ) : ∃ σ', TW (d + 1) 5 [] σ = some (.ptr σ.next 0, σ') ∧ Atc σ' σ.next [.nils] ∧ Fr Nowhere σ σ' := by
  obtain ⟨ρ, hf, hr⟩ := hit1 (e := eNew) (F := F5 [] (TW d) (drawW [] (TW d)) 100000) (fits_of (ρ := fun x => x) (args := []) rfl Has.nil Inj.nil)
  have et : eNew.to ρ σ 100 = σ.next := by
    unfold Few.to
    have h0 : eNew.n0 = 100 := rfl
    rw [h0, if_neg (by omega)]; omega
  refine ⟨(eNew.ans ρ σ).2, ?_, ?_, Few.fr0 eNew_shape eNew_still hf ht⟩
  · rw [DE5, hr]
    show some (V.ptr (eNew.to ρ σ 100) 0, _) = _
    rw [et]; rfl
  · have := Few.has eNew_shape hf ht 100 (.cells [.nils]) rfl
    rw [et] at this
    exact this
theorem xAw (d : Nat) (ht : Tidy σ) : ∃ σ', TW (d + 1) 4 [] σ = some (.bool true, σ') ∧ Fr Nowhere σ σ' := by
  obtain ⟨ρ, hf, hr⟩ := hit1 (e := eAw) (F := BD [] 100000 (TW d) 4) (fits_of (ρ := fun x => x) (args := []) rfl Has.nil Inj.nil)
  exact ⟨(eAw.ans ρ σ).2, by rw [DE4, hr]; rfl, Few.fr0 eAw_shape eAw_still hf ht⟩
theorem text_ne : text0 ≠ printed := fun h => by
  have := congrArg BS.len h
  exact absurd this (by decide +kernel)
theorem xReg1 (d : Nat) {p : Nat} (ht : Tidy σ) (hp : Atc σ p [.nils]) : ∃ σ' τ, TW (d + 1) 6 [.ptr p 0, .str text0] σ = some (.tup [.int .i64 (Int.ofNat 1), .int .i64 (Int.ofNat 0), .int .i64 (Int.ofNat 0)], σ') ∧ Has eReg.bl1 τ σ' ∧ Inj eReg.bl1 τ ∧ τ 50 = p ∧ Fr (fun b => b = p) σ σ' := by
  obtain ⟨ρ, hf, hr⟩ := hit2 (e := eReg) (e2 := eReg2) (F := F6 [] (TW d) (drawW [] (TW d)) 100000) (l := [eReg, eReg2]) (fits_of (ρ := fun _ => p) (args := [.ptr p 0, .str text0]) rfl (Has.cons (k := 50) hp Has.nil) Inj.one) (fun ρ' hf => by
    have h1 := congrArg (fun l : List V => l.getD 1 .dead) hf.args
    have h2 : V.str text0 = V.str printed := h1
    exact text_ne (V.str.inj h2)) (.inl rfl)
  have e50 : ρ 50 = p := by
    have h1 := congrArg (fun l : List V => l.getD 0 .dead) hf.args
    have h2 : V.ptr p 0 = V.ptr (ρ 50) 0 := h1
    cases h2; rfl
  have et : eReg.to ρ σ 50 = p := by
    unfold Few.to
    have h0 : eReg.n0 = 100 := rfl
    rw [h0, if_pos (by omega), e50]
  refine ⟨(eReg.ans ρ σ).2, eReg.to ρ σ, by rw [DE6, hr]; rfl, Few.has eReg_shape hf ht, Few.to_inj eReg_shape hf ht, et, (Few.fr eReg_shape hf ht).mono fun b hb ho => ?_⟩
  obtain ⟨k, c, hk, he⟩ := old_iff.1 ho
  have hk : (k, c) ∈ [(50, Blk.cells [V.nils])] := hk
  simp only [List.mem_cons, List.not_mem_nil, or_false, Prod.mk.injEq] at hk
  rw [hk.1, e50] at he
  exact he.symm
theorem xReg2 (d : Nat) {p : Nat} (ht : Tidy σ) (hp : Atc σ p [.nils]) : ∃ σ' τ, TW (d + 1) 6 [.ptr p 0, .str printed] σ = some (.tup [.int .i64 (Int.ofNat 1), .int .i64 (Int.ofNat 0), .int .i64 (Int.ofNat 0)], σ') ∧ Has eReg2.bl1 τ σ' ∧ Inj eReg2.bl1 τ ∧ τ 50 = p ∧ Fr (fun b => b = p) σ σ' := by
  obtain ⟨ρ, hf, hr⟩ := hit2 (e := eReg2) (e2 := eReg) (F := F6 [] (TW d) (drawW [] (TW d)) 100000) (l := [eReg, eReg2]) (fits_of (ρ := fun _ => p) (args := [.ptr p 0, .str printed]) rfl (Has.cons (k := 50) hp Has.nil) Inj.one) (fun ρ' hf => by
    have h1 := congrArg (fun l : List V => l.getD 1 .dead) hf.args
    have h2 : V.str printed = V.str text0 := h1
    exact text_ne (V.str.inj h2).symm) (.inr rfl)
  have e50 : ρ 50 = p := by
    have h1 := congrArg (fun l : List V => l.getD 0 .dead) hf.args
    have h2 : V.ptr p 0 = V.ptr (ρ 50) 0 := h1
    cases h2; rfl
  have et : eReg2.to ρ σ 50 = p := by
    unfold Few.to
    have h0 : eReg2.n0 = 100 := rfl
    rw [h0, if_pos (by omega), e50]
  refine ⟨(eReg2.ans ρ σ).2, eReg2.to ρ σ, by rw [DE6, hr]; rfl, Few.has eReg2_shape hf ht, Few.to_inj eReg2_shape hf ht, et, (Few.fr eReg2_shape hf ht).mono fun b hb ho => ?_⟩
  obtain ⟨k, c, hk, he⟩ := old_iff.1 ho
  have hk : (k, c) ∈ [(50, Blk.cells [V.nils])] := hk
  simp only [List.mem_cons, List.not_mem_nil, or_false, Prod.mk.injEq] at hk
  rw [hk.1, e50] at he
  exact he.symm
theorem xF1 (d : Nat) {τ : Nat → Nat} (ht : Tidy σ) (hR : Has eReg.bl1 τ σ) (hi : Inj eReg.bl1 τ) : ∃ σ', TW (d + 1) 7 [.ptr (τ 50) 0, .str ⟨1, 77⟩, .int .i64 (Int.ofNat 1)] σ = some (.tup [.str printed, .int .i64 (Int.ofNat 0)], σ') ∧ Fr Nowhere σ σ' := by
  obtain ⟨ρ, hf, hr⟩ := hit2 (e := eF1) (e2 := eF2) (F := F7 [] (TW d) (drawW [] (TW d)) 100000) (l := [eF1, eF2]) (fits_of (ρ := τ) (args := [.ptr (τ 50) 0, .str ⟨1, 77⟩, .int .i64 (Int.ofNat 1)]) rfl hR hi) (fun ρ' hf => by
    have h1 := congrArg (fun l : List V => l.getD 2 .dead) hf.args
    have h2 : V.int .i64 (Int.ofNat 1) = V.int .i64 (Int.ofNat 0) := h1
    cases h2) (.inl rfl)
  exact ⟨(eF1.ans ρ σ).2, by rw [DE7, hr]; rfl, Few.fr0 eF1_shape eF1_still hf ht⟩
theorem xF2 (d : Nat) {τ : Nat → Nat} (ht : Tidy σ) (hR : Has eReg2.bl1 τ σ) (hi : Inj eReg2.bl1 τ) : ∃ σ', TW (d + 1) 7 [.ptr (τ 50) 0, .str ⟨1, 77⟩, .int .i64 (Int.ofNat 0)] σ = some (.tup [.str printed, .int .i64 (Int.ofNat 0)], σ') ∧ Fr Nowhere σ σ' := by
  obtain ⟨ρ, hf, hr⟩ := hit2 (e := eF2) (e2 := eF1) (F := F7 [] (TW d) (drawW [] (TW d)) 100000) (l := [eF1, eF2]) (fits_of (ρ := τ) (args := [.ptr (τ 50) 0, .str ⟨1, 77⟩, .int .i64 (Int.ofNat 0)]) rfl hR hi) (fun ρ' hf => by
    have h1 := congrArg (fun l : List V => l.getD 2 .dead) hf.args
    have h2 : V.int .i64 (Int.ofNat 0) = V.int .i64 (Int.ofNat 1) := h1
    cases h2) (.inr rfl)
  exact ⟨(eF2.ans ρ σ).2, by rw [DE7, hr]; rfl, Few.fr0 eF2_shape eF2_still hf ht⟩
end
end
end Go.Proofs.YtdfgcokapncaiaaGreatDoor
set_option linter.all false
set_option maxRecDepth 100000
namespace Go.Proofs.YtdfgcokapncaiaaGreatDoor
open Go Go.Og
noncomputable section
theorem catK_of {a b : BS} (h : a.len + b.len ≤ 1000000) (κ : BS → Ans) : catK a b κ = κ (a.cat b) := by
  unfold catK
  rw [show Nat.ble (Nat.add a.len b.len) 1000000000000 = true from ble_of (show a.len + b.len ≤ 1000000000000 by omega)]
theorem len_cat (a b : BS) : (a.cat b).len = a.len + b.len := rfl
def P5 : List V := [.str (BS.mk 1 32), .str (BS.mk 1 10), .str (BS.mk 1 9), .str (BS.mk 7 12715991429557549), .str (BS.mk 4 175713581)]
theorem pieces {j : Nat} (h : j < 5) : ∃ s : BS, nthF P5 j = some (.str s) ∧ s.nats = pieceT j := by
  match j, h with
  | 0, _ => exact ⟨_, rfl, by decide +kernel⟩
  | 1, _ => exact ⟨_, rfl, by decide +kernel⟩
  | 2, _ => exact ⟨_, rfl, by decide +kernel⟩
  | 3, _ => exact ⟨_, rfl, by decide +kernel⟩
  | 4, _ => exact ⟨_, rfl, by decide +kernel⟩
theorem piecesT_app : ∀ g h : List Nat, piecesT (g ++ h) = piecesT g ++ piecesT h
  | [], h => rfl
  | k :: g, h => by simp only [List.cons_append, piecesT, piecesT_app g h, List.append_assoc]
def mods (bs : List Nat) : List Nat := bs.map (· % 5)
/-- The slice of the law: nil, or so many bytes in a block that nobody has written. -/
structure White (E : List (Nat × Blk)) (v : V) (bs : List Nat) : Prop where
  len : ∀ κ : Nat → Ans, slenK v κ = κ bs.length
  at_ : ∀ i (κ : Nat → Nat → Ans), i < bs.length → iaddrSK 1 v (Int.ofNat i) κ = κ 50 i
  is : bs ≠ [] → lookF E 50 = some (.cells (bs.map fun k => .int .u8 (Int.ofNat k)))
theorem White.ld {E : List (Nat × Blk)} {v : V} {bs : List Nat} (h : White E v bs) {σ : H} (hn : lookF σ.bl 50 = none) {i k : Nat} (hi : bs[i]? = some k) (κ : V → Ans) : ldK E σ 50 i κ = κ (.int .u8 (Int.ofNat k)) := by
  have hne : bs ≠ [] := fun e => by rw [e] at hi; cases hi
  unfold ldK rdK
  rw [hn]
  simp only [h.is hne]
  exact nthK_of (by rw [nthF_eq, List.getElem?_map, hi]; rfl)
section
variable {E : List (Nat × Blk)} {D : Den} {W : DrawFn} {N : Nat} {b : Bool} {v : V} {bs : List Nat}
theorem loopW (h : White E v bs) (hb : bs.length ≤ 12) : ∀ (m n i : Nat) (s : BS) (σ : H), i + m = bs.length → m < n → s.nats = gapT (mods (bs.take i)) → Tidy σ → 100 ≤ σ.next → lookF σ.bl 50 = none →
    ∃ s' σ', s'.nats = gapT (mods bs) ∧ Tidy σ' ∧ L3_2 E D W N n b v s (Int.ofNat i) σ = J3_1 E D W N b s' σ' := by
  intro m
  induction m with
  | zero =>
    intro n i s σ hi hn hs ht _ _
    obtain ⟨n, rfl⟩ : ∃ k, n = k + 1 := ⟨n - 1, by omega⟩
    refine ⟨s, σ, by rw [hs, List.take_of_length_le (by omega)], ht, ?_⟩
    show T3_2 E D W (J3_1 E D W N) (L3_2 E D W N n) b v s (Int.ofNat i) σ = _
    unfold T3_2
    rw [h.len, ltF_nat, decide_eq_false (by omega), condK_false]
  | succ m ih =>
    intro n i s σ hi hn hs ht h1 h2
    obtain ⟨n, rfl⟩ : ∃ k, n = k + 1 := ⟨n - 1, by omega⟩
    have hlt : i < bs.length := by omega
    have hg : bs[i]? = some bs[i] := List.getElem?_eq_getElem hlt
    obtain ⟨σ1, e1, f1, a1, n1⟩ := mk_new ht P5
    have h50 : lookF σ1.bl 50 = none := by rw [f1.same 50 (by omega) (fun h => h)]; exact h2
    have hj : bs[i] % 5 < 5 := Nat.mod_lt _ (by decide)
    obtain ⟨t, hnt, hnats⟩ := pieces hj
    have hls : s.len ≤ 1 + 7 * 12 := by
      rw [← BS.length_nats, hs]
      have := piecesT_len (mods (bs.take i))
      simp only [gapT, List.length_cons, mods, List.length_map, List.length_take] at this ⊢
      omega
    have hlt' : t.len ≤ 7 := by rw [← BS.length_nats, hnats]; exact pieceT_len _
    have hcat : (s.cat t).nats = gapT (mods (bs.take (i + 1))) := by
      rw [BS.nats_cat, hs, hnats]
      have : bs.take (i + 1) = bs.take i ++ [bs[i]] := by rw [List.take_add_one, hg]; rfl
      rw [this]
      simp only [mods, List.map_append, List.map_cons, List.map_nil, gapT, piecesT_app, piecesT, List.append_nil, List.cons_append]
    obtain ⟨s', σ', q1, q2, q3⟩ := ih n (i + 1) (s.cat t) σ1 (by omega) (by omega) hcat f1.tidy (by have := f1.le; omega) h50
    refine ⟨s', σ', q1, q2, ?_⟩
    show T3_2 E D W (J3_1 E D W N) (L3_2 E D W N n) b v s (Int.ofNat i) σ = _
    unfold T3_2
    rw [h.len, ltF_nat, decide_eq_true hlt, condK_true]
    have e1' : newB σ (.cells [V.str (BS.mk 1 32), V.str (BS.mk 1 10), V.str (BS.mk 1 9), V.str (BS.mk 7 12715991429557549), V.str (BS.mk 4 175713581)]) = σ1 := e1
    dsimp only
    rw [e1', h.at_ i _ hlt, h.ld h50 hg, rtInt_int]
    show iaddrSK 1 (V.sl σ.next 0 5 (.ex 5)) (Int.ofNat (bs[i] % 5)) _ = _
    rw [iaddrSK_lt hj]
    show ldK E σ1 σ.next (0 + bs[i] % 5 * 1) _ = _
    rw [Nat.zero_add, Nat.mul_one, ldK_at a1 hnt, rtStr_str, catK_of (by omega), addF_nat (by omega)]
    exact q3
end
theorem rtOne_ptr {b o : Nat} {a : Ans} : rtOne (.ptr b o) a = a := rfl
theorem T_pre : (BS.mk 1 77).nats = [77] := by decide +kernel
theorem tailW (E : List (Nat × Blk)) (D : Den) (W : DrawFn) (N : Nat) (σ : H) : J3_4 E D W N (Int.ofNat 1) (Int.ofNat 0) (Int.ofNat 8) printed (Int.ofNat 0) (Int.ofNat 1) (Int.ofNat 0) printed (Int.ofNat 0) σ = some (.bool true, σ) := by kernel_rfl
theorem J3W (E : List (Nat × Blk)) (W : DrawFn) (N d : Nat) (tg : Bool) {g : List Nat} (hg : g.length ≤ 12) {s t : BS} (hs : s.nats = gapT g) (ht : t.nats = tagT tg []) {σ : H} (hσ : Tidy σ) : ∃ σ', J3_3 E (TW (d + 12)) W N s t σ = some (.bool true, σ') := by
  obtain ⟨σ1, g1, a1, f1⟩ := xNew (d + 11) hσ
  obtain ⟨σ2, g2, a2, f2⟩ := xNew (d + 11) f1.tidy
  obtain ⟨σ3, g3, f3⟩ := xAw (d + 11) f2.tidy
  have lt1 := a1.lt f1.tidy
  have b1 : Atc σ3 σ.next [.nils] := f3.at_ (f2.at_ a1 f1.tidy (fun h => h)) f2.tidy (fun h => h)
  have b2 : Atc σ3 σ1.next [.nils] := f3.at_ a2 f2.tidy (fun h => h)
  obtain ⟨σ4, τ, g4, hR, hi, e50, f4⟩ := xReg1 (d + 11) f3.tidy b1
  have c2 : Atc σ4 σ1.next [.nils] := f4.at_ b2 f3.tidy (by omega)
  have ls : s.len ≤ 86 := by
    rw [← BS.length_nats, hs]
    have := piecesT_len g
    simp only [gapT, List.length_cons]
    omega
  have lt' : t.len ≤ 14 := by
    rw [← BS.length_nats, ht]
    cases tg <;> decide
  have k1 : (BS.mk 12 10004230964473430939472905540).nats = [68, 69, 70, 73, 78, 73, 84, 73, 79, 78, 83, 32] := by decide +kernel
  have k2 : (BS.mk 3 4012602).nats = [58, 58, 61] := by decide +kernel
  have k3 : (BS.mk 7 18331394095138114).nats = [66, 69, 71, 73, 78, 32, 65] := by decide +kernel
  have k4 : (BS.mk 11 99459075210250793865001530).nats = [58, 58, 61, 32, 73, 78, 84, 69, 71, 69, 82] := by decide +kernel
  have k5 : (BS.mk 7 19226357215606056).nats = [40, 53, 41, 32, 69, 78, 68] := by decide +kernel
  let x : BS := ((((((((((BS.mk 1 77).cat s).cat (BS.mk 12 10004230964473430939472905540)).cat t).cat (BS.mk 3 4012602)).cat s).cat (BS.mk 7 18331394095138114)).cat s).cat (BS.mk 11 99459075210250793865001530)).cat s).cat (BS.mk 7 19226357215606056)
  have tagA : ∀ r, tagT tg r = tagT tg [] ++ r := fun r => by cases tg <;> rfl
  have hx : (x.cat s).nats = whiteT tg g := by
    simp only [x, BS.nats_cat, k1, k2, k3, k4, k5, hs, ht, T_pre]
    unfold whiteT
    rw [tagA (58 :: _)]
    simp only [List.append_assoc, List.cons_append, List.nil_append]
  have lx : (x.cat s).len ≤ 8000 := by
    simp only [x, len_cat]; omega
  obtain ⟨σ5, g5, f5⟩ := regW tg (g := g) (by omega) d hx lx f4.tidy hR hi
  have hR5 := hR.fr f5 f4.tidy (fun _ _ h => h)
  obtain ⟨σ6, g6, f6⟩ := xF1 (d + 11) f5.tidy hR5 hi
  have d2 : Atc σ6 σ1.next [.nils] := f6.at_ (f5.at_ c2 f4.tidy (fun h => h)) f5.tidy (fun h => h)
  obtain ⟨σ7, τ7, g7, hR7, hi7, e57, f7⟩ := xReg2 (d + 11) f6.tidy d2
  obtain ⟨σ8, g8, f8⟩ := xF2 (d + 11) f7.tidy hR7 hi7
  rw [e50] at g5 g6
  rw [e57] at g8
  refine ⟨σ8, ?_⟩
  have eqn : ∀ (p : Nat) (κ : Bool → Ans), eqK .ptr (.ptr p 0) .nilp κ = κ false := fun _ _ => rfl
  show T3_3 E (TW (d + 12)) W (J3_4 E (TW (d + 12)) W N) s t σ = _
  unfold T3_3
  rw [g1, callK_some_, rtOne_ptr, g2, callK_some_, rtOne_ptr, g3, callK_some_, rtBool_bool, joinB_, Bool.not_true, condK_false, eqn]
  dsimp only
  rw [joinB_, condK_false, eqn]
  dsimp only
  rw [condK_false]
  have g4' : TW (d + 12) 6 [.ptr σ.next 0, .str (BS.mk 62 54587738091573229668102065803883576158056086505522375198882813406261465456683832757570236346346394289095007491148526506889332126255556727757022175309)] σ3 = some (.tup [.int .i64 (Int.ofNat 1), .int .i64 (Int.ofNat 0), .int .i64 (Int.ofNat 0)], σ4) := g4
  rw [g4', callK_some_, rtTup_tup, rtCons_cons, rtInt_int, rtCons_cons, rtInt_int, rtCons_cons, rtInt_int, rtNil_nil]
  have e1 : (BS.mk 1 77).len = 1 := rfl
  rw [catK_of (by omega), catK_of (by simp only [len_cat]; omega), catK_of (by simp only [len_cat]; omega), catK_of (by simp only [len_cat]; omega), catK_of (by simp only [len_cat]; omega), catK_of (by simp only [len_cat]; omega), catK_of (by simp only [len_cat]; omega), catK_of (by simp only [len_cat]; omega), catK_of (by simp only [len_cat]; omega), catK_of (by simp only [len_cat]; omega), catK_of (by simp only [len_cat]; omega)]
  rw [g5, callK_some_, rtTup_tup, rtCons_cons, rtInt_int, rtCons_cons, rtInt_int, rtCons_cons, rtInt_int, rtNil_nil]
  rw [g6, callK_some_, rtTup_tup, rtCons_cons, rtStr_str, rtCons_cons, rtInt_int, rtNil_nil]
  rw [g7, callK_some_, rtTup_tup, rtCons_cons, rtInt_int, rtCons_cons, rtInt_int, rtCons_cons, rtInt_int, rtNil_nil]
  rw [g8, callK_some_, rtTup_tup, rtCons_cons, rtStr_str, rtCons_cons, rtInt_int, rtNil_nil]
  exact tailW _ _ _ _ _
/-- The law. -/
theorem lawW {E : List (Nat × Blk)} {W : DrawFn} {v : V} {bs : List Nat} (h : White E v bs) (b : Bool) : okB (F3 E (TW 60) W 100000 [.bool b, v] ⟨100, []⟩) = true := by
  have ht : Tidy ⟨100, []⟩ := fun _ _ => rfl
  show okB (T3_0 E (TW 60) W (L3_2 E (TW 60) W 100000 100000) b v ⟨100, []⟩) = true
  unfold T3_0
  rw [h.len, ltF_nat]
  by_cases hl : 12 < bs.length
  · rw [decide_eq_true hl, condK_true]
    obtain ⟨σ', g, _⟩ := xAw 59 ht
    rw [g, callK_some_, rtBool_bool]
    rfl
  · rw [decide_eq_false hl, condK_false]
    obtain ⟨s', σ', q1, q2, q3⟩ := loopW (E := E) (D := TW 60) (W := W) (N := 100000) (b := b) h (by omega) bs.length 100000 0 (BS.mk 1 32) ⟨100, []⟩ (by omega) (by omega) (by rw [List.take_zero]; decide +kernel) ht (Nat.le_refl _) rfl
    rw [q3]
    show okB (T3_1 E (TW 60) W (J3_3 E (TW 60) W 100000) b s' σ') = true
    unfold T3_1
    have hm : (mods bs).length ≤ 12 := by simp only [mods, List.length_map]; omega
    cases b with
    | true =>
      rw [condK_true]
      obtain ⟨σ2, e⟩ := J3W E W 100000 48 true hm q1 (t := BS.mk 14 655635097218688137868315485820997) (by decide +kernel) q2
      rw [e]; rfl
    | false =>
      rw [condK_false]
      obtain ⟨σ2, e⟩ := J3W E W 100000 48 false hm q1 (t := BS.mk 0 0) (by decide +kernel) q2
      rw [e]; rfl
end
end Go.Proofs.YtdfgcokapncaiaaGreatDoor
set_option maxRecDepth 100000
set_option linter.all false
namespace Go.Og
open Go Go.RowKit Go.Deep
/-- What is sound where nothing is known is sound where something is. -/
theorem SoundFn.ofNil {P : Program} {G : Nat → Bool} {f : FuncId} {F : List V → H → Ans} (h : SoundFn P [] G f F) (E : List (Nat × Blk)) : SoundFn P E G f F := by
  intro C hE hG R σ w args xs v σ' hr hrel hxs
  have hrel' : Rel ⟨C.O, C.w0, [], C.G⟩ R σ w := ⟨hrel.fresh, hrel.own, hrel.inj, fun id b hb => by simp [look] at hb, hrel.glob, hrel.fr, hrel.size, hrel.new, hrel.os, hrel.tape, hrel.output⟩
  obtain ⟨hok, hc⟩ := h ⟨C.O, C.w0, [], C.G⟩ rfl hG R σ w args xs v σ' hr hrel' hxs
  refine ⟨hok, hc.mono ?_⟩
  rintro en w' ⟨R', x, h1, h2, h3, h4, h5⟩
  refine ⟨R', x, h1, h2, ⟨h3.fresh, h3.own, h3.inj, ?_, h3.glob, h3.fr, h3.size, h3.new, h3.os, h3.tape, h3.output⟩, h4, h5⟩
  intro id b hb
  obtain ⟨i, hi, hn, hx⟩ := hrel.ext id b hb
  exact ⟨i, (h1.le hrel.fresh) _ _ hi, hn, hx.mono (h1.le hrel.fresh) ((h3.fr _ hn).trans (hrel.fr _ hn).symm)⟩
/-- A law answers true, and below the heap's old end nothing has turned; what the arguments lead to is known (E). -/
theorem law_belowE {P : Program} {G : Nat → Bool} {f : FuncId} {F : List V → H → Ans} {E : List (Nat × Blk)} (hS : SoundFn P E G f F) {ng n0 : Nat} (hG : ∀ g, G g = true → g < ng) (hn : ng ≤ n0) (l : List (Nat × BI)) (args : List V) (xs : List Value) (w : World)
    (hl : ∀ id i, look l id = some i → id < n0) (hE : ∀ id b, look E id = some b → ∃ i, argR ng l id = some i ∧ ExtOk (argR ng l) i b w) (hx : concs (argR ng l) args = some xs) (h : okB (F args ⟨n0, []⟩) = true) :
    Calls P f xs.toArray w fun e w' => e = .returned (.bool true) ∧ RowKit.Below w.heap.size w w' := by
  obtain ⟨σ, hσ⟩ := okB_some h
  obtain ⟨_, hc⟩ := hS ⟨fun blk => w.heap.size ≤ blk, w, E, G⟩ rfl rfl (argR ng l) ⟨n0, []⟩ w args xs _ σ hσ (start_relE hG hn l E w hl hE) hx
  refine hc.mono ?_
  rintro en w' ⟨R', x, _, _, h3, h4, rfl⟩
  cases h4
  exact ⟨rfl, h3.os, h3.tape, h3.output, h3.size, fun k hk => h3.fr k (Nat.not_le.2 hk)⟩
theorem addr_add (b o i : Nat) : (⟨b, o, none⟩ : Addr).add i = ⟨b, o + i, none⟩ := by
  unfold Addr.add
  split
  · rename_i h; subst h; rfl
  · rfl
section
variable {H : Type} {enc : TypeId × Value → H} {P : Program} {w : World} {t e : TypeId} {d : DataW H} {ps : List MemPlace} {blk off len cap : Nat}
theorem row_cells (ht : P.underlying t = some (.slice e)) (hc : P.cellsOf e = 1) (h : DataW.Trod enc P w 0 (fun _ => true) true t (.slice (some ⟨blk, off, none⟩) len cap) d ps) :
    ∃ V : Nat → Value, ∀ i, i < len → w.cell? ⟨blk, off + i, none⟩ = some (V i) ∧ ∃ n D p, DataW.trod enc P w 0 (fun _ => true) true n e [V i] = some (D, p) := by
  obtain ⟨fuel, hf⟩ := h
  rcases open_slice1 ht hc hf with ⟨h0, _⟩ | ⟨a, len', cap', m, n, V, D, Pl, hcs, _, hl, _, hm, _, hx⟩
  · simp [Value.cells] at h0
  · simp only [Value.cells, List.cons.injEq, Value.slice.injEq, Option.some.injEq, and_true] at hcs
    obtain ⟨rfl, rfl, rfl⟩ := hcs
    refine ⟨V, fun i hi => ?_⟩
    obtain ⟨h1, h2⟩ := hx i (by rw [hm]; simp only [if_true]; omega)
    rw [addr_add] at h1
    exact ⟨h1, _, _, _, h2⟩
theorem row_ints {k : IntKind} (ht : P.underlying t = some (.slice e)) (he : P.underlying e = some (.int k)) (hc : P.cellsOf e = 1) (h : DataW.Trod enc P w 0 (fun _ => true) true t (.slice (some ⟨blk, off, none⟩) len cap) d ps) :
    ∃ B : Nat → Int, ∀ i, i < len → w.cell? ⟨blk, off + i, none⟩ = some (.int k (B i)) ∧ (Lit.int k (B i)).wf = true := by
  obtain ⟨V, hV⟩ := row_cells ht hc h
  have : ∀ i, i < len → ∃ b, V i = .int k b ∧ (Lit.int k b).wf = true := fun i hi => by
    obtain ⟨_, n, D, p, h2⟩ := hV i hi
    cases n with
    | zero => simp [DataW.trod] at h2
    | succ n =>
      unfold DataW.trod at h2
      rw [he] at h2
      split at h2 <;> simp_all
  obtain ⟨B, hB⟩ := choose_lt this
  exact ⟨B, fun i hi => ⟨by rw [(hV i hi).1, (hB i hi).1], (hB i hi).2⟩⟩
end
theorem cell_arr {w : World} {blk off : Nat} {v : Value} (h : w.cell? ⟨blk, off, none⟩ = some v) : ∃ arr el fr, w.heap[blk]? = some (.cells arr el fr) ∧ arr[off]? = some v := by
  unfold World.cell? at h
  simp only [] at h
  split at h
  · rename_i c el fr hh
    exact ⟨c, el, fr, hh, by simpa using h⟩
  · cases h
theorem ext_row {R : Ren} {w : World} {blk off : Nat} {l : List V} (hne : l ≠ []) (h : ∀ k v, l[k]? = some v → ∃ a, conc R v = some a ∧ a.oneCell' = true ∧ w.cell? ⟨blk, off + k, none⟩ = some a) : ExtOk R ⟨blk, off, 0⟩ (.cells l) w := by
  cases l with
  | nil => exact (hne rfl).elim
  | cons u l =>
    obtain ⟨a, _, _, h0⟩ := h 0 u rfl
    obtain ⟨arr, el, fr, h1, _⟩ := cell_arr h0
    refine ⟨arr, el, fr, h1, fun k v hk => ?_⟩
    obtain ⟨a', h2, h3, h4⟩ := h k v hk
    obtain ⟨arr', el', fr', h5, h6⟩ := cell_arr h4
    rw [h1] at h5
    cases h5
    exact ⟨a', h2, h3, h6⟩
theorem ext_one {R : Ren} {w : World} {id : Nat} {i : BI} {b : Blk} (hR : R id = some i) (h : ExtOk R i b w) : ∀ id' b', look [(id, b)] id' = some b' → ∃ j, R id' = some j ∧ ExtOk R j b' w := by
  intro id' b' hb
  simp only [look] at hb
  split at hb
  · rename_i he
    have := Nat.eq_of_beq_eq_true he
    subst this
    cases hb
    exact ⟨i, hR, h⟩
  · cases hb
theorem ext_list {R : Ren} {w : World} {blk off len : Nat} {f : Nat → V} {g : Nat → Value} (hc : ∀ i, conc R (f i) = some (g i) ∧ (g i).oneCell' = true) (h : ∀ i, i < len → w.cell? ⟨blk, off + i, none⟩ = some (g i)) (h0 : len ≠ 0) : ExtOk R ⟨blk, off, 0⟩ (.cells ((List.range len).map f)) w := by
  refine ext_row (by simp [h0]) fun k v hk => ?_
  rw [List.getElem?_map, Option.map_eq_some_iff] at hk
  obtain ⟨j, hj, rfl⟩ := hk
  obtain ⟨hj1, rfl⟩ := List.getElem?_eq_some_iff.1 hj
  have hk' : k < len := by simpa using hj1
  refine ⟨g k, ?_, (hc k).2, h k hk'⟩
  simp [(hc k).1]
end Go.Og
