/- Names, signs and numbers of a text. -/
import Derived.Test.YtjolbidcficdhaaDoorLx
set_option linter.all false
set_option maxRecDepth 100000
namespace Go.Proofs.YtjolbidcficdhaaDoor
open Go Go.Og
noncomputable section

/-! ### names -/
def nameC (c : Nat) (r : List Nat) : Bool := letterB c || digitB c || (eqF (Int.ofNat c) (Int.ofNat 45) && not (eqF (Int.ofNat (r.getD 0 0)) (Int.ofNat 45)))
def nameLen : List Nat → Nat
  | [] => 0
  | c :: r => match nameC c r with
    | true => Nat.succ (nameLen r)
    | false => 0
theorem nameLen_le : ∀ r : List Nat, nameLen r ≤ r.length
  | [] => Nat.le_refl _
  | c :: r => by
    unfold nameLen
    cases nameC c r
    · exact Nat.zero_le _
    · exact Nat.succ_le_succ (nameLen_le r)
theorem nameC_zero (r : List Nat) : nameC 0 r = false := rfl
theorem name_L {D : Den} {W : DrawFn} {N : Nat} (hP : SpPeek (D 32)) (hLt : SpLetter (D 34)) (hDg : SpDigit (D 36)) (v4 : Int) : ∀ (r : List Nat) (n : Nat) (σ : H) (b i : Nat) (s : BS), r.length < n → Lx σ b s i r →
    ∃ σ', L35_2 [] D W N n b 0 v4 (Int.ofNat (r.getD 0 0)) σ = J35_1 [] D W N b 0 v4 σ' ∧ Lx σ' b s (i + nameLen r) (r.drop (nameLen r)) ∧ Mv σ σ' b s (r.drop (nameLen r))
  | r, 0, _, _, _, _, hn, _ => absurd hn (Nat.not_lt_zero _)
  | [], n + 1, σ, b, i, s, _, h => by
    refine ⟨σ, ?_, h, Mv.refl h⟩
    show T35_2 [] D W (J35_1 [] D W N) (L35_2 [] D W N n) b 0 v4 (Int.ofNat 0) σ = _
    simp only [T35_2, hLt σ 0, hDg σ 0, callK_some_, rtBool_bool, joinB_]
    rfl
  | c :: r, n + 1, σ, b, i, s, hn, h => by
    have e : L35_2 [] D W N (n + 1) b 0 v4 (Int.ofNat ((c :: r).getD 0 0)) σ = T35_2 [] D W (J35_1 [] D W N) (L35_2 [] D W N n) b 0 v4 (Int.ofNat c) σ := rfl
    rw [e]
    have hp : D 32 [.ptr b 0, .int .i64 (Int.ofNat 1)] σ = some (.int .u8 (Int.ofNat (r.getD 0 0)), σ) := hP σ b i 1 s (c :: r) h (by omega)
    have h2 := h.go (k := 1) (by simp)
    have hp2 : D 32 [.ptr b 0, .int .i64 (Int.ofNat 0)] (mv σ b s (i + 1)) = some (.int .u8 (Int.ofNat (r.getD 0 0)), mv σ b s (i + 1)) := hP _ b (i + 1) 0 s r h2 (by omega)
    have yes : nameC c r = true → ∃ σ', stK 1 b (Nat.add 0 1) (.int .i64 (addF .i64 (Int.ofNat i) (Int.ofNat 1))) σ (fun s12 => callK (D 32 [.ptr b 0, .int .i64 (Int.ofNat 0)] s12) fun u13 s14 => rtInt .u8 u13 fun x15 => L35_2 [] D W N n b 0 v4 x15 s14) = J35_1 [] D W N b 0 v4 σ' ∧ Lx σ' b s (i + nameLen (c :: r)) ((c :: r).drop (nameLen (c :: r))) ∧ Mv σ σ' b s ((c :: r).drop (nameLen (c :: r))) := fun hc => by
      rw [h.st (k := 1) (by simp)]
      simp only [hp2, callK_some_, rtInt_int]
      obtain ⟨σ', g1, g2, g3⟩ := name_L hP hLt hDg v4 r n (mv σ b s (i + 1)) b (i + 1) s (by simp at hn; omega) h2
      have e2 : nameLen (c :: r) = Nat.succ (nameLen r) := by show (match nameC c r with | true => _ | false => _) = _; rw [hc]
      refine ⟨σ', g1, ?_, ?_⟩
      · rw [e2]
        have : i + (nameLen r).succ = i + 1 + nameLen r := by omega
        rw [this]; exact g2
      · rw [e2]; exact (Mv.step h (k := 1) (by simp)).trans g3
    have no : nameC c r = false → ∃ σ', J35_1 [] D W N b 0 v4 σ = J35_1 [] D W N b 0 v4 σ' ∧ Lx σ' b s (i + nameLen (c :: r)) ((c :: r).drop (nameLen (c :: r))) ∧ Mv σ σ' b s ((c :: r).drop (nameLen (c :: r))) := fun hc => by
      have e2 : nameLen (c :: r) = 0 := by show (match nameC c r with | true => _ | false => _) = _; rw [hc]
      rw [e2]
      exact ⟨σ, rfl, h, Mv.refl h⟩
    simp only [T35_2, hLt σ c, hDg σ c, callK_some_, rtBool_bool, joinB_, hp, rtInt_int, h.h1]
    cases hl : letterB c <;> cases hd : digitB c <;> cases h45 : eqF (Int.ofNat c) (Int.ofNat 45) <;> cases h46 : eqF (Int.ofNat (r.getD 0 0)) (Int.ofNat 45) <;>
      first
      | (have hw : nameC c r = true := by simp only [nameC, hl, hd, h45, h46, Bool.or_true, Bool.true_or, Bool.or_false, Bool.false_or, Bool.and_true, Bool.and_false, Bool.true_and, Bool.false_and, Bool.not_true, Bool.not_false]
         simp only [condK_true, condK_false, Bool.not_false, Bool.not_true, h.h1, rtInt_int]
         exact yes hw)
      | (have hw : nameC c r = false := by simp only [nameC, hl, hd, h45, h46, Bool.or_true, Bool.true_or, Bool.or_false, Bool.false_or, Bool.and_true, Bool.and_false, Bool.true_and, Bool.false_and, Bool.not_true, Bool.not_false]
         simp only [condK_true, condK_false, Bool.not_false, Bool.not_true]
         exact no hw)

def wordB (t : BS) : Bool := BS.beq t (BS.mk 11 100710650190388740279911748) || (BS.beq t (BS.mk 8 6073459554577832005) || (BS.beq t (BS.mk 8 6073459554577829193) || (BS.beq t (BS.mk 9 1241215773001651606849) || (BS.beq t (BS.mk 4 1397178708) || (BS.beq t (BS.mk 5 336236856642) || (BS.beq t (BS.mk 3 4476485) || (BS.beq t (BS.mk 7 22026814072246082) || (BS.beq t (BS.mk 7 23157120498421321) || (BS.beq t (BS.mk 10 322399817400452109389381) || (BS.beq t (BS.mk 4 1280070990) || (BS.beq t (BS.mk 5 361940403023) || (BS.beq t (BS.mk 6 78401563153491) || (BS.beq t (BS.mk 10 488440487847103610377301) || (BS.beq t (BS.mk 8 4990918871747741011) || (BS.beq t (BS.mk 3 5522771) || (BS.beq t (BS.mk 6 76155295057987) || (BS.beq t (BS.mk 2 17999) || (BS.beq t (BS.mk 8 5494759122808361039) || (BS.beq t (BS.mk 7 23727827094750532) || (BS.beq t (BS.mk 4 1163544915) || (BS.beq t (BS.mk 3 5130573) || (BS.beq t (BS.mk 3 5783885) || (BS.beq t (BS.mk 4 1163219540) || (BS.beq t (BS.mk 5 297750249798)))))))))))))))))))))))))
def SpWord (F : List V → H → Ans) : Prop := ∀ (σ : H) (t : BS), F [.str t] σ = some (.bool (wordB t), σ)
theorem word_F (D : Den) (W : DrawFn) (N : Nat) : SpWord (F49 [] D W N) := by
  intro σ t
  have two : ∀ b : Bool, J49_2 [] D W N b σ = some (.bool b, σ) := fun b => by cases b <;> rfl
  have one : ∀ (b : Bool) (a : Ans) (c : Bool), a = some (.bool c, σ) → condK b (some (.bool b, σ)) a = some (.bool (b || c), σ) := fun b a c h => by
    subst h; cases b <;> rfl
  simp only [F49, J49_0, T49_0, rtCons_cons, rtStr_str, rtNil_nil, two]
  unfold wordB
  repeat (refine one _ _ _ ?_)
  rfl
/-- Of which kind a name is; 0: it may not be. -/
def nameK (w : List Nat) : Nat := match ltF (Int.ofNat 60) (Int.ofNat w.length) || eqF (Int.ofNat (w.getD (w.length - 1) 0)) (Int.ofNat 45) with
  | true => 0
  | false => match wordB (ofN w) with
    | true => 5
    | false => match leF (Int.ofNat (w.getD 0 0)) (Int.ofNat 90) with
      | true => 1
      | false => 2
def tokOf (k : Nat) (w : List Nat) : V := match k with
  | 0 => .tup [.int .i64 (Int.ofNat 0), .str (BS.mk 0 0)]
  | k + 1 => .tup [.int .i64 (Int.ofNat (k + 1)), .str (ofN w)]
def SpTok (len : List Nat → Nat) (kind : List Nat → Nat) (ok : List Nat → Prop) (F : List V → H → Ans) : Prop := ∀ (σ : H) (b i : Nat) (s : BS) (r : List Nat), Lx σ b s i r → ok r →
  ∃ σ', F [.ptr b 0] σ = some (tokOf (kind r) (r.take (len r)), σ') ∧ Mv σ σ' b s (r.drop (len r))
theorem name_F {D : Den} {W : DrawFn} {N : Nat} (hP : SpPeek (D 32)) (hLt : SpLetter (D 34)) (hDg : SpDigit (D 36)) (hW : SpWord (D 49)) (hN : 10000 < N) :
    SpTok nameLen (fun r => nameK (r.take (nameLen r))) (fun r => letterB (r.getD 0 0) = true) (F35 [] D W N) := by
  intro σ b i s r h hok
  have hl := h.len; have hb := h.big
  cases r with
  | nil => cases hok
  | cons c r0 =>
    have hc : letterB c = true := hok
    have hn1 : nameLen (c :: r0) = Nat.succ (nameLen r0) := by
      show (match nameC c r0 with | true => _ | false => _) = _
      have : nameC c r0 = true := by simp only [nameC, hc, Bool.true_or]
      rw [this]
    generalize hr : c :: r0 = r at *
    have hle := nameLen_le r
    have hpos : 0 < nameLen r := by omega
    obtain ⟨σ', g1, g2, g3⟩ := name_L (N := N) (W := W) hP hLt hDg (Int.ofNat i) r N σ b i s (by omega) h
    refine ⟨σ', ?_, g3⟩
    have hp : D 32 [.ptr b 0, .int .i64 (Int.ofNat 0)] σ = some (.int .u8 (Int.ofNat (r.getD 0 0)), σ) := hP σ b i 0 s r h (by omega)
    simp only [F35, J35_0, T35_0, rtCons_cons, rtPtr_ptr, rtNil_nil, h.h1, rtInt_int, hp, callK_some_]
    rw [g1]
    have htl : (r.take (nameLen r)).length = nameLen r := by rw [List.length_take]; omega
    have hw : ∀ j, j < nameLen r → (ofN (r.take (nameLen r))).get j = (r.take (nameLen r)).getD j 0 := fun j hj => by
      have hbd : ∀ c ∈ r.take (nameLen r), c < 256 := fun c hc => h.2.1.bd c (List.mem_of_mem_take hc)
      have h1 : (ofN (r.take (nameLen r))).nats[j]? = some ((ofN (r.take (nameLen r))).get j) := BS.nats_get (by rw [ofN_len, htl]; exact hj)
      rw [ofN_nats hbd] at h1
      rw [List.getD_eq_getElem?_getD, h1]; rfl
    show T35_1 [] D W b 0 (Int.ofNat i) σ' = _
    simp only [T35_1, g2.h0, g2.h1, rtStr_str, rtInt_int, joinB_]
    rw [sliceStrX_both (by omega) (by omega), h.2.1.sub hle]
    generalize hwd : r.take (nameLen r) = w at *
    rw [ofN_len, htl]
    have e0 : eqF (Int.ofNat (w.getD (w.length - 1) 0)) (Int.ofNat 45) = eqF (Int.ofNat (w.getD (nameLen r - 1) 0)) (Int.ofNat 45) := by rw [htl]
    have hlt0 : nameLen r - 1 < (ofN w).len := by rw [ofN_len, htl]; omega
    have hlt1 : 0 < (ofN w).len := by rw [ofN_len, htl]; omega
    rw [subF_nat (by omega) (by omega), idxStrX_nat hlt0, hw _ (by omega)]
    simp only [hW σ' (ofN w), callK_some_, rtBool_bool, idxStrX_nat hlt1, hw 0 (by omega)]
    unfold nameK
    rw [e0, htl]
    cases ltF (Int.ofNat 60) (Int.ofNat (nameLen r)) <;> cases eqF (Int.ofNat (w.getD (nameLen r - 1) 0)) (Int.ofNat 45) <;> cases wordB (ofN w) <;> cases leF (Int.ofNat (w.getD 0 0)) (Int.ofNat 90) <;> rfl

/-! ### signs -/
def signs : List BS := [(BS.mk 3 4012602), (BS.mk 3 3026478), (BS.mk 2 11822), (BS.mk 2 23387), (BS.mk 2 23901), (BS.mk 1 123), (BS.mk 1 125), (BS.mk 1 91), (BS.mk 1 93), (BS.mk 1 40), (BS.mk 1 41), (BS.mk 1 44), (BS.mk 1 58)]
def signIn : List BS → List Nat → Option BS
  | [], _ => none
  | t :: l, r => match preB t.nats r with
    | true => some t
    | false => signIn l r
def signOf (r : List Nat) : Option BS := signIn signs r
theorem sign_L {D : Den} {W : DrawFn} {N : Nat} (hH : SpAhead (D 33)) (gb : Nat) : ∀ (m j n : Nat) (σ : H) (b i : Nat) (s : BS) (r : List Nat), j + m = 13 → m < n → Lx σ b s i r → Atc σ gb (signs.map .str) → gb ≠ b →
    ∃ σ', L40_2 [] D W N n b 0 (.sl gb 0 13 (.ex 13)) (Int.ofNat 13) (Int.ofNat j) σ =
        (match signIn (signs.drop j) r with
          | some t => some (.tup [.int .i64 (Int.ofNat 6), .str t], σ')
          | none => some (.tup [.int .i64 (Int.ofNat 0), .str (BS.mk 0 0)], σ')) ∧
      Mv σ σ' b s (match signIn (signs.drop j) r with
          | some t => r.drop t.len
          | none => r)
  | m, j, 0, _, _, _, _, _, _, hn, _, _, _ => absurd hn (Nat.not_lt_zero _)
  | 0, j, n + 1, σ, b, i, s, r, hj, hn, h, hg, hne => by
    have : j = 13 := by omega
    subst this
    refine ⟨σ, ?_, Mv.refl h⟩
    show T40_2 [] D W (J40_1 [] D W N) (L40_2 [] D W N n) b 0 (.sl gb 0 13 (.ex 13)) (Int.ofNat 13) (Int.ofNat 13) σ = _
    rfl
  | m + 1, j, n + 1, σ, b, i, s, r, hj, hn, h, hg, hne => by
    have e : L40_2 [] D W N (n + 1) b 0 (.sl gb 0 13 (.ex 13)) (Int.ofNat 13) (Int.ofNat j) σ = T40_2 [] D W (J40_1 [] D W N) (L40_2 [] D W N n) b 0 (.sl gb 0 13 (.ex 13)) (Int.ofNat 13) (Int.ofNat j) σ := rfl
    have hjl : j < signs.length := by show j < 13; omega
    obtain ⟨t, ht⟩ : ∃ t, signs[j]? = some t := ⟨_, List.getElem?_eq_getElem hjl⟩
    have hdrop : signs.drop j = t :: signs.drop (j + 1) := by
      have h1 := List.drop_eq_getElem_cons hjl
      have h2 : signs[j] = t := by have := List.getElem?_eq_getElem hjl; rw [ht] at this; exact (Option.some.inj this).symm
      rw [h2] at h1; exact h1
    have hia : ∀ κ : Nat → Nat → Ans, iaddrSK 1 (.sl gb 0 13 (.ex 13)) (Int.ofNat j) κ = κ gb (Nat.add 0 (Nat.mul j 1)) := fun κ => by
      show chk (Nat.blt j 13) _ = _
      exact chk_true (by simp [Nat.blt_eq]; omega)
    have hld : ∀ κ : V → Ans, ldK [] σ gb (Nat.add 0 (Nat.mul j 1)) κ = κ (.str t) := fun κ => ldK_get hg (by
      have : Nat.add 0 (Nat.mul j 1) = j := by show 0 + j * 1 = j; omega
      rw [this, List.getElem?_map, ht]; rfl)
    have hh := hH σ b i s t r h
    have htl : 0 ≤ t.len := Nat.zero_le _
    rw [e, hdrop]
    simp only [T40_2, ltF_nat, hia, hld, rtStr_str, hh, callK_some_, rtBool_bool, h.h1, rtInt_int]
    rw [decide_eq_true (by omega), condK_true]
    have es : signIn (t :: signs.drop (j + 1)) r = (match preB t.nats r with | true => some t | false => signIn (signs.drop (j + 1)) r) := rfl
    rw [es]
    cases hp : preB t.nats r
    · have ha : addF .i64 (Int.ofNat j) (Int.ofNat 1) = Int.ofNat (j + 1) := addF_nat (by omega)
      simp only [condK_false, ha]
      exact sign_L hH gb m (j + 1) n σ b i s r (by omega) (by omega) h hg hne
    · have hlen : t.len ≤ r.length := by have := preB_len hp; rwa [BS.length_nats] at this
      simp only [condK_true]
      rw [h.st hlen]
      exact ⟨_, rfl, Mv.step h hlen⟩
def signLen (r : List Nat) : Nat := match signOf r with
  | some t => t.len
  | none => 0
def SpSign (F : List V → H → Ans) : Prop := ∀ (σ : H) (b i : Nat) (s : BS) (r : List Nat), Lx σ b s i r →
  ∃ σ', F [.ptr b 0] σ = some ((match signOf r with
          | some t => .tup [.int .i64 (Int.ofNat 6), .str t]
          | none => .tup [.int .i64 (Int.ofNat 0), .str (BS.mk 0 0)]), σ') ∧ Mv σ σ' b s (r.drop (signLen r))
theorem sign_F {D : Den} {W : DrawFn} {N : Nat} (hH : SpAhead (D 33)) (hN : 10000 < N) : SpSign (F40 [] D W N) := by
  intro σ b i s r h
  have hne : σ.next ≠ b := by have := h.lt; omega
  have hf : Fr (fun k => k = b) σ (newB σ (.cells (signs.map .str))) := Fr.new h.tidy _
  have h2 : Lx (newB σ (.cells (signs.map .str))) b s i r := ⟨(Fr.new (S := Nowhere) h.tidy _).at_ h.1 h.tidy (fun h => h), h.2.1, h.big, hf.tidy⟩
  obtain ⟨σ', g1, g2⟩ := sign_L (N := N) (W := W) hH σ.next 13 0 N _ b i s r rfl (by omega) h2 (Atc_newB _) hne
  refine ⟨σ', ?_, ?_, hf.trans g2.fr (fun _ _ h => h)⟩
  · show L40_2 [] D W N N b 0 (.sl σ.next 0 13 (.ex 13)) (Int.ofNat 13) (Int.ofNat 0) (newB σ (.cells (signs.map .str))) = _
    rw [g1]
    show (match signIn signs r with | some t => _ | none => _) = some ((match signIn signs r with | some t => _ | none => _), σ')
    cases signIn signs r <;> rfl
  · have e : r.drop (signLen r) = (match signIn (signs.drop 0) r with | some t => r.drop t.len | none => r) := by
      show r.drop (match signIn signs r with | some t => t.len | none => 0) = (match signIn signs r with | some t => r.drop t.len | none => r)
      cases signIn signs r <;> rfl
    rw [e]; exact g2.at_
end
end Go.Proofs.YtjolbidcficdhaaDoor
