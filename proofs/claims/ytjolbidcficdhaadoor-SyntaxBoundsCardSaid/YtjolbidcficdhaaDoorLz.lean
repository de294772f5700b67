/- Numbers: what ParseInt answers, and the lexer's number. -/
import Derived.Test.YtjolbidcficdhaaDoorLy
set_option linter.all false
set_option maxRecDepth 100000
namespace Go.Proofs.YtjolbidcficdhaaDoor
open Go Go.Og
noncomputable section

/-! ### the number that digits are -/
def dvalA : Nat → List Nat → Nat
  | a, [] => a
  | a, c :: l => dvalA (10 * a + (c - 48)) l
def dval (l : List Nat) : Nat := dvalA 0 l
theorem dvalA_ge : ∀ (l : List Nat) (a : Nat), a ≤ dvalA a l
  | [], a => Nat.le_refl _
  | c :: l, a => Nat.le_trans (by omega) (dvalA_ge l (10 * a + (c - 48)))
theorem dvalA_append : ∀ (l m : List Nat) (a : Nat), dvalA a (l ++ m) = dvalA (dvalA a l) m
  | [], m, a => rfl
  | c :: l, m, a => dvalA_append l m _
def Digs (l : List Nat) : Prop := ∀ c ∈ l, 48 ≤ c ∧ c ≤ 57
theorem Digs.bd {l : List Nat} (h : Digs l) : ∀ c ∈ l, c < 256 := fun c hc => by have := h c hc; omega

theorem ints_eq (l : List UInt8) : ints l = (l.map UInt8.toNat).map fun c => V.int .u8 (Int.ofNat c) := by
  unfold ints; rw [List.map_map]; rfl
theorem ints_ofN {l : List Nat} (h : ∀ c ∈ l, c < 256) : ints (ofN l).toList = l.map fun c => V.int .u8 (Int.ofNat c) := by
  rw [ints_eq]
  have := ofN_nats h
  unfold BS.nats at this
  rw [this]

section
variable {D : Den} {W : DrawFn} {N : Nat}
theorem uint_L (v9 : BS) (gb : Nat) (ds : List Nat) (hds : Digs ds) (hv : dval ds ≤ 9223372036854775808) (hlen : ds.length ≤ 10000) : ∀ (m j n : Nat) (σ : H), j + m = ds.length → m < n → Atc σ gb (ds.map fun c => V.int .u8 (Int.ofNat c)) →
    L68_5 [] D W N n (Int.ofNat 10) false v9 (Int.ofNat 1844674407370955162) (Int.ofNat 18446744073709551615) false (Int.ofNat (dval (ds.take j))) (.sl gb 0 ds.length (.op 1)) (Int.ofNat ds.length) (Int.ofNat j) σ =
      some (.tup [.int .u64 (Int.ofNat (dval ds)), .nili], σ)
  | m, j, 0, _, _, hn, _ => absurd hn (Nat.not_lt_zero _)
  | 0, j, n + 1, σ, hj, hn, ha => by
    have : j = ds.length := by omega
    subst this
    show T68_5 [] D W (J68_4 [] D W N) (J68_6 [] D W N (L68_5 [] D W N n)) (J68_7 [] D W N (L68_5 [] D W N n)) _ _ _ _ _ _ _ _ _ _ σ = _
    simp only [T68_5, ltF_nat]
    rw [decide_eq_false (by omega), condK_false, List.take_length]
    rfl
  | m + 1, j, n + 1, σ, hj, hn, ha => by
    have hjl : j < ds.length := by omega
    have hc := hds _ (List.getElem_mem hjl)
    generalize hcc : ds[j] = c at hc
    have hia : ∀ κ : Nat → Nat → Ans, iaddrSK 1 (.sl gb 0 ds.length (.op 1)) (Int.ofNat j) κ = κ gb (Nat.add 0 (Nat.mul j 1)) := fun κ => by
      show chk (Nat.blt j ds.length) _ = _
      exact chk_true (by simp [Nat.blt_eq]; omega)
    have hld : ∀ κ : V → Ans, ldK [] σ gb (Nat.add 0 (Nat.mul j 1)) κ = κ (.int .u8 (Int.ofNat c)) := fun κ => ldK_get ha (by
      have : Nat.add 0 (Nat.mul j 1) = j := by show 0 + j * 1 = j; omega
      rw [this, List.getElem?_map, List.getElem?_eq_getElem hjl, hcc]; rfl)
    have htk : dval (ds.take (j + 1)) = 10 * dval (ds.take j) + (c - 48) := by
      rw [List.take_succ_eq_append_getElem hjl, hcc]
      unfold dval
      rw [dvalA_append]; rfl
    have hle : dval (ds.take (j + 1)) ≤ dval ds := by
      have h1 : ds = ds.take (j + 1) ++ ds.drop (j + 1) := (List.take_append_drop _ _).symm
      have h2 : dval ds = dvalA (dval (ds.take (j + 1))) (ds.drop (j + 1)) := by
        unfold dval
        rw [← dvalA_append, ← h1]
      rw [h2]; exact dvalA_ge _ _
    show T68_5 [] D W (J68_4 [] D W N) (J68_6 [] D W N (L68_5 [] D W N n)) (J68_7 [] D W N (L68_5 [] D W N n)) _ _ _ _ _ _ _ _ _ _ σ = _
    simp only [T68_5, ltF_nat, hia, hld, rtInt_int, joinB_, eqF_nat, leF_nat]
    rw [decide_eq_true (by omega), condK_true, decide_eq_false (show ¬ c = 95 by omega), condK_false, condK_false, decide_eq_true hc.1, condK_true, decide_eq_true hc.2, condK_true]
    have hsub : subF .u8 (Int.ofNat c) (Int.ofNat 48) = Int.ofNat (c - 48) := by
      have e : Int.sub (Int.ofNat c) (Int.ofNat 48) = Int.ofNat (c - 48) := by
        show (c : Int) - ((48 : Nat) : Int) = ((c - 48 : Nat) : Int); omega
      show wrapF .u8 (Int.sub (Int.ofNat c) (Int.ofNat 48)) = _
      rw [e]
      exact wrapF_nat (k := .u8) (show c - 48 ≤ 255 by omega)
    rw [hsub]
    show T68_7 [] D W (J68_6 [] D W N (L68_5 [] D W N n)) _ _ _ _ _ _ _ _ _ _ _ σ = _
    have w8 : wrapF .u8 (Int.ofNat 10) = Int.ofNat 10 := rfl
    have w64 : wrapF .u64 (Int.ofNat 10) = Int.ofNat 10 := rfl
    have w64c : wrapF .u64 (Int.ofNat (c - 48)) = Int.ofNat (c - 48) := wrapF_nat (k := .u64) (show c - 48 ≤ 18446744073709551615 by omega)
    have hmul : mulF .u64 (Int.ofNat (dval (ds.take j))) (Int.ofNat 10) = Int.ofNat (dval (ds.take j) * 10) := by
      exact wrapF_nat (k := .u64) (m := dval (ds.take j) * 10) (show _ ≤ 18446744073709551615 by omega)
    have hadd : addF .u64 (Int.ofNat (dval (ds.take j) * 10)) (Int.ofNat (c - 48)) = Int.ofNat (dval (ds.take (j + 1))) := by
      refine (wrapF_nat (k := .u64) (m := dval (ds.take j) * 10 + (c - 48)) (show _ ≤ 18446744073709551615 by omega)).trans ?_
      show Int.ofNat _ = Int.ofNat _
      congr 1; omega
    have hj1 : addF .i64 (Int.ofNat j) (Int.ofNat 1) = Int.ofNat (j + 1) := addF_nat (by omega)
    simp only [T68_7, w8, w64, w64c, hmul, hadd, leF_nat, ltF_nat, joinB_]
    rw [decide_eq_false (by omega), condK_false, decide_eq_false (by omega), condK_false, decide_eq_false (by omega), condK_false, decide_eq_false (by omega), condK_false]
    show L68_5 [] D W N n _ _ _ _ _ _ _ _ _ (addF .i64 (Int.ofNat j) (Int.ofNat 1)) σ = _
    rw [hj1]
    exact uint_L v9 gb ds hds hv hlen m (j + 1) n σ (by omega) (by omega) ha
def SpUint (F : List V → H → Ans) : Prop := ∀ (σ : H) (ds : List Nat), Tidy σ → Digs ds → ds ≠ [] → ds.length ≤ 10000 → dval ds ≤ 9223372036854775808 →
  ∃ σ', F [.str (ofN ds), .int .i64 (Int.ofNat 10), .int .i64 (Int.ofNat 64)] σ = some (.tup [.int .u64 (Int.ofNat (dval ds)), .nili], σ') ∧ Fr Nowhere σ σ'
theorem beq_empty {l : List Nat} (hb : ∀ c ∈ l, c < 256) (h : l ≠ []) : BS.beq (ofN l) (BS.mk 0 0) = false := by
  rw [BS.beq_nats, ofN_nats hb, decide_eq_false]
  exact h
theorem uint_F (hN : 10000 < N) : SpUint (F68 [] D W N) := by
  intro σ ds ht hds hne hlen hv
  refine ⟨newB σ (.cells (ds.map fun c => V.int .u8 (Int.ofNat c))), ?_, Fr.new ht _⟩
  simp only [F68, rtCons_cons, rtStr_str, rtInt_int, rtNil_nil]
  show T68_0 [] D W (J68_1 [] D W N) (ofN ds) (Int.ofNat 10) (Int.ofNat 64) σ = _
  unfold T68_0
  rw [beq_empty hds.bd hne, condK_false]
  show T68_3 [] D W (L68_5 [] D W N N) (ofN ds) (Int.ofNat 10) (Int.ofNat 64) false (ofN ds) (Int.ofNat 1844674407370955162) σ = _
  have hlo : (ofN ds).len = ds.length := ofN_len ds
  have hsub : subF .u64 (shlF .u64 (Int.ofNat 1) 64) (Int.ofNat 1) = Int.ofNat 18446744073709551615 := by decide +kernel
  show chk (Nat.ble (ofN ds).len 1000000000000) _ = _
  rw [chk_true (ble_of (by omega))]
  show L68_5 [] D W N N (Int.ofNat 10) false (ofN ds) (Int.ofNat 1844674407370955162) (subF .u64 (shlF .u64 (Int.ofNat 1) 64) (Int.ofNat 1)) false (Int.ofNat 0) (.sl σ.next 0 (ofN ds).len (.op 1)) (Int.ofNat (ofN ds).len) (Int.ofNat 0) (newB σ (.cells (ints (ofN ds).toList))) = _
  rw [hsub, hlo, ints_ofN hds.bd]
  exact uint_L (ofN ds) σ.next ds hds hv hlen ds.length 0 N _ (by omega) (by omega) (Atc_newB _)

def numT (neg : Bool) (ds : List Nat) : List Nat := match neg with
  | true => 45 :: ds
  | false => ds
/-- The text of a number, as it is asked for. -/
structure NumOk (w : List Nat) (v : Int) : Prop where
  ex : ∃ neg ds, w = numT neg ds ∧ Digs ds ∧ ds ≠ [] ∧ v = (match neg with | true => -(dval ds : Int) | false => (dval ds : Int))
  lo : -9223372036854775808 ≤ v
  hi : v ≤ 9223372036854775807
  len : w.length ≤ 10000
def SpInt (F : List V → H → Ans) : Prop := ∀ (σ : H) (w : List Nat) (v : Int), Tidy σ → NumOk w v →
  ∃ σ', F [.str (ofN w), .int .i64 (Int.ofNat 10), .int .i64 (Int.ofNat 64)] σ = some (.tup [.int .i64 v, .nili], σ') ∧ Fr Nowhere σ σ'
theorem wrap64 {v : Int} (h : -9223372036854775808 ≤ v) (h2 : v ≤ 9223372036854775807) : wrapF .i64 v = v := by
  cases v with
  | ofNat m =>
    refine wrapF_nat (k := .i64) ?_
    show m ≤ 9223372036854775807
    simp only [Int.ofNat_eq_natCast] at h2; omega
  | negSucc m =>
    refine (wrapF_eq _ _).trans (wrap_in ?_)
    show Nat.blt m 9223372036854775808 = true
    rw [Nat.blt_eq]; omega
theorem neg64 {n : Nat} (h : n ≤ 9223372036854775808) : negF .i64 (wrapF .i64 (Int.ofNat n)) = -(n : Int) := by
  by_cases hn : n = 9223372036854775808
  · subst hn; decide +kernel
  · rw [wrap64 (by simp only [Int.ofNat_eq_natCast]; omega) (by simp only [Int.ofNat_eq_natCast]; omega)]
    show wrapF .i64 (0 - (n : Int)) = _
    rw [wrap64 (by omega) (by omega)]; omega
theorem iint_F (hU : SpUint (D 68)) : SpInt (F59 [] D W N) := by
  rintro σ w v ht ⟨⟨neg, ds, rfl, hds, hne, rfl⟩, hlo, hhi, hlen⟩
  have htail : ∀ (neg : Bool) (hv : match neg with | true => dval ds ≤ 9223372036854775808 | false => dval ds ≤ 9223372036854775807) (hl : ds.length ≤ 10000), ∃ σ', J59_1 [] D W N (ofN ds) (Int.ofNat 10) (Int.ofNat 64) neg σ =
      some (.tup [.int .i64 (match neg with | true => -(dval ds : Int) | false => (dval ds : Int)), .nili], σ') ∧ Fr Nowhere σ σ' := fun neg hv hl => by
    obtain ⟨σ', g1, g2⟩ := hU σ ds ht hds hne hl (by cases neg <;> simp only [] at hv <;> omega)
    refine ⟨σ', ?_, g2⟩
    show T59_1 [] D W (J59_2 [] D W N) (ofN ds) (Int.ofNat 10) (Int.ofNat 64) neg σ = _
    simp only [T59_1, g1, callK_some_, rtTup_tup, rtCons_cons, rtInt_int, rtNil_nil]
    show T59_2 [] D W (J59_3 [] D W N) (Int.ofNat 64) neg (Int.ofNat (dval ds)) σ' = _
    have hs : shlF .u64 (Int.ofNat 1) 63 = Int.ofNat 9223372036854775808 := by decide +kernel
    have h63 : wrapF .u64 (subF .i64 (Int.ofNat 64) (Int.ofNat 1)) = Int.ofNat 63 := by decide +kernel
    unfold T59_2
    rw [h63]
    have nn : ∀ κ : Nat → Ans, nnK (Int.ofNat 63) κ = κ 63 := fun _ => rfl
    rw [nn]
    simp only [joinB_]
    cases neg
    · simp only [] at hv
      simp only [Bool.not_false, condK_true, condK_false]
      rw [hs, leF_nat, decide_eq_false (by omega), condK_false]
      show some (V.tup [.int .i64 (wrapF .i64 (Int.ofNat (dval ds))), .nili], σ') = _
      rw [wrap64 (by simp only [Int.ofNat_eq_natCast]; omega) (by simp only [Int.ofNat_eq_natCast]; omega)]
      rfl
    · simp only [] at hv
      simp only [Bool.not_true, condK_true, condK_false]
      rw [hs, ltF_nat, decide_eq_false (by omega), condK_false]
      show some (V.tup [.int .i64 (negF .i64 (wrapF .i64 (Int.ofNat (dval ds)))), .nili], σ') = _
      rw [neg64 hv]
  simp only [F59, rtCons_cons, rtStr_str, rtInt_int, rtNil_nil]
  cases neg
  · simp only [numT] at hlo hhi hlen ⊢
    obtain ⟨σ', g1, g2⟩ := htail false (by simp only []; omega) hlen
    refine ⟨σ', ?_, g2⟩
    rw [← g1]
    cases ds with
    | nil => exact absurd rfl hne
    | cons c l =>
      have hc := hds c (by simp)
      have hget : (ofN (c :: l)).get 0 = c := by
        have h1 : (ofN (c :: l)).nats[0]? = some ((ofN (c :: l)).get 0) := BS.nats_get (by rw [ofN_len]; simp)
        rw [ofN_nats hds.bd] at h1
        exact (Option.some.inj h1).symm
      show T59_0 [] D W (J59_1 [] D W N) (ofN (c :: l)) (Int.ofNat 10) (Int.ofNat 64) σ = _
      unfold T59_0
      rw [beq_empty hds.bd hne, condK_false, idxStrX_nat (by rw [ofN_len]; simp), hget, eqF_nat, decide_eq_false (by omega), condK_false, eqF_nat, decide_eq_false (by omega), condK_false]
  · simp only [numT] at hlo hhi hlen ⊢
    obtain ⟨σ', g1, g2⟩ := htail true (by simp only []; omega) (by simp at hlen; omega)
    refine ⟨σ', ?_, g2⟩
    rw [← g1]
    have hbd : ∀ c ∈ 45 :: ds, c < 256 := fun c hc => by
      rcases List.mem_cons.1 hc with rfl | hc
      · omega
      · exact hds.bd c hc
    have hget : (ofN (45 :: ds)).get 0 = 45 := by
      have h1 : (ofN (45 :: ds)).nats[0]? = some ((ofN (45 :: ds)).get 0) := BS.nats_get (by rw [ofN_len]; simp)
      rw [ofN_nats hbd] at h1
      exact (Option.some.inj h1).symm
    show T59_0 [] D W (J59_1 [] D W N) (ofN (45 :: ds)) (Int.ofNat 10) (Int.ofNat 64) σ = _
    unfold T59_0
    rw [beq_empty hbd (by simp), condK_false, idxStrX_nat (by rw [ofN_len]; simp), hget, eqF_nat, decide_eq_false (by omega), condK_false, eqF_nat, decide_eq_true rfl, condK_true, sliceStrX_from (by rw [ofN_len]; simp)]
    have hs : (ofN (45 :: ds)).sub 1 (ofN (45 :: ds)).len = ofN ds := by
      rw [sub_ofN (Nat.le_refl _), ofN_nats hbd, ofN_len]
      simp
    rw [hs]
theorem sint_F (hI : SpInt (D 59)) : SpInt (F50 [] D W N) := by
  intro σ w v ht hw
  obtain ⟨σ', g1, g2⟩ := hI σ w v ht hw
  refine ⟨σ', ?_, g2⟩
  simp only [F50, J50_0, T50_0, rtCons_cons, rtStr_str, rtInt_int, rtNil_nil, g1, callK_some_, rtTup_tup]
  rfl
end
end
end Go.Proofs.YtjolbidcficdhaaDoor
