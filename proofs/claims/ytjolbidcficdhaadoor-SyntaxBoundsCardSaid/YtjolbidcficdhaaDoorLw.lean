/- The lexer's number and token; all signs of a text. -/
import Derived.Test.YtjolbidcficdhaaDoorLz
set_option linter.all false
set_option maxRecDepth 100000
namespace Go.Proofs.YtjolbidcficdhaaDoor
open Go Go.Og
noncomputable section

/-! ### number -/
def digLen : List Nat → Nat
  | [] => 0
  | c :: r => match digitB c with
    | true => Nat.succ (digLen r)
    | false => 0
theorem digLen_le : ∀ r : List Nat, digLen r ≤ r.length
  | [] => Nat.le_refl _
  | c :: r => by
    unfold digLen
    cases digitB c
    · exact Nat.zero_le _
    · exact Nat.succ_le_succ (digLen_le r)
theorem digitB_iff (c : Nat) : digitB c = true ↔ 48 ≤ c ∧ c ≤ 57 := by
  unfold digitB; rw [leF_nat, leF_nat]; simp
theorem digLen_app : ∀ (ds : List Nat) (r : List Nat), Digs ds → digitB (r.getD 0 0) = false → digLen (ds ++ r) = ds.length
  | [], [], _, _ => rfl
  | [], c :: r, _, h => by
    have h' : digitB c = false := h
    show digLen (c :: r) = 0
    unfold digLen; rw [h']
  | d :: ds, r, hd, h => by
    have h1 : digitB d = true := (digitB_iff d).2 (hd d (by simp))
    show digLen (d :: (ds ++ r)) = _
    unfold digLen
    rw [h1]
    simp only [List.length_cons, digLen_app ds r (fun c hc => hd c (by simp [hc])) h]
section
variable {D : Den} {W : DrawFn} {N : Nat}
theorem dig_L (hP : SpPeek (D 32)) (hDg : SpDigit (D 36)) (v4 v5 : Int) : ∀ (r : List Nat) (n : Nat) (σ : H) (b i : Nat) (s : BS), r.length < n → Lx σ b s i r →
    ∃ σ', L37_3 [] D W N n b 0 v4 v5 σ = J37_2 [] D W N b 0 v4 v5 σ' ∧ Lx σ' b s (i + digLen r) (r.drop (digLen r)) ∧ Mv σ σ' b s (r.drop (digLen r))
  | r, 0, _, _, _, _, hn, _ => absurd hn (Nat.not_lt_zero _)
  | [], n + 1, σ, b, i, s, _, h => by
    refine ⟨σ, ?_, h, Mv.refl h⟩
    have hp : D 32 [.ptr b 0, .int .i64 (Int.ofNat 0)] σ = some (.int .u8 (Int.ofNat 0), σ) := hP σ b i 0 s [] h (by omega)
    show T37_3 [] D W (J37_2 [] D W N) (L37_3 [] D W N n) b 0 v4 v5 σ = _
    simp only [T37_3, hp, callK_some_, rtInt_int, hDg σ 0, rtBool_bool]
    rfl
  | c :: r, n + 1, σ, b, i, s, hn, h => by
    have hp : D 32 [.ptr b 0, .int .i64 (Int.ofNat 0)] σ = some (.int .u8 (Int.ofNat c), σ) := hP σ b i 0 s (c :: r) h (by omega)
    have e : L37_3 [] D W N (n + 1) b 0 v4 v5 σ = T37_3 [] D W (J37_2 [] D W N) (L37_3 [] D W N n) b 0 v4 v5 σ := rfl
    rw [e]
    simp only [T37_3, hp, callK_some_, rtInt_int, hDg σ c, rtBool_bool, h.h1]
    cases hd : digitB c
    · have e2 : digLen (c :: r) = 0 := by show (match digitB c with | true => _ | false => _) = _; rw [hd]
      rw [e2, condK_false]
      exact ⟨σ, rfl, h, Mv.refl h⟩
    · have e2 : digLen (c :: r) = Nat.succ (digLen r) := by show (match digitB c with | true => _ | false => _) = _; rw [hd]
      rw [e2, condK_true, h.st (k := 1) (by simp)]
      obtain ⟨σ', g1, g2, g3⟩ := dig_L hP hDg v4 v5 r n (mv σ b s (i + 1)) b (i + 1) s (by simp at hn; omega) (h.go (k := 1) (by simp))
      refine ⟨σ', g1, ?_, ?_⟩
      · have : i + (digLen r).succ = i + 1 + digLen r := by omega
        rw [this]; exact g2
      · exact (Mv.step h (k := 1) (by simp)).trans g3
/-- A number that may be, with what stands behind it. -/
structure NumAt (r w r' : List Nat) (v : Int) : Prop where
  eq : r = w ++ r'
  ok : NumOk w v
  lead : ∀ neg ds, w = numT neg ds → Digs ds → ds.getD 0 0 = 48 → ds.length = 1 ∧ neg = false
  next : letterB (r'.getD 0 0) = false ∧ digitB (r'.getD 0 0) = false
def SpNum (F : List V → H → Ans) : Prop := ∀ (σ : H) (b i : Nat) (s : BS) (r w r' : List Nat) (v : Int), Lx σ b s i r → NumAt r w r' v →
  ∃ σ', F [.ptr b 0] σ = some (.tup [.int .i64 (Int.ofNat 3), .str (ofN w)], σ') ∧ Mv σ σ' b s r'
theorem num_tail (hP : SpPeek (D 32)) (hLt : SpLetter (D 34)) (hDg : SpDigit (D 36)) (hI : SpInt (D 50)) (hN : 10000 < N) {σ0 σ : H} {b i0 i : Nat} {s : BS} {r0 ds r' w : List Nat} {v : Int}
    (h0 : Lx σ0 b s i0 r0) (hr0 : r0 = w ++ r') (h : Lx σ b s i (ds ++ r')) (hw : i0 + w.length = i + ds.length) (hlt : i0 ≤ i) (hds : Digs ds) (hne : ds ≠ []) (hok : NumOk w v)
    (hlead : ds.getD 0 0 = 48 → ¬ (1 < ds.length) ∧ ¬ (i0 < i)) (hnext : letterB (r'.getD 0 0) = false ∧ digitB (r'.getD 0 0) = false) :
    ∃ σ', J37_1 [] D W N b 0 (Int.ofNat i0) σ = some (.tup [.int .i64 (Int.ofNat 3), .str (ofN w)], σ') ∧ Mv σ σ' b s r' := by
  have hl := h.len; have hb := h.big
  have hdl : digLen (ds ++ r') = ds.length := digLen_app ds r' hds hnext.2
  obtain ⟨σ1, g1, g2, g3⟩ := dig_L (N := N) (W := W) hP hDg (Int.ofNat i0) (Int.ofNat i) (ds ++ r') N σ b i s (by omega) h
  rw [hdl] at g2 g3
  have hdr : (ds ++ r').drop ds.length = r' := List.drop_left
  rw [hdr] at g2 g3
  have e1 : J37_1 [] D W N b 0 (Int.ofNat i0) σ = J37_2 [] D W N b 0 (Int.ofNat i0) (Int.ofNat i) σ1 := by
    show T37_1 [] D W (L37_3 [] D W N N) b 0 (Int.ofNat i0) σ = _
    simp only [T37_1, h.h1, rtInt_int]
    exact g1
  obtain ⟨σ2, p1, p2⟩ := hI σ1 w v g2.tidy hok
  have x2 : Lx σ2 b s (i + ds.length) r' := ⟨p2.at_ g2.1 g2.tidy (fun h => h), g2.2.1, g2.big, p2.tidy⟩
  refine ⟨σ2, ?_, ⟨⟨_, x2⟩, g3.fr.trans p2 (fun _ _ h => h.elim)⟩⟩
  rw [e1]
  show T37_2 [] D W b 0 (Int.ofNat i0) (Int.ofNat i) σ1 = _
  have hl0 := h0.len
  rw [hr0] at hl0
  have hls : s.sub i0 (i + ds.length) = ofN w := by
    rw [← hw, h0.2.1.sub (k := w.length) (by rw [hr0]; simp), hr0, List.take_left]
  simp only [T37_2, g2.h0, g2.h1, rtStr_str, rtInt_int]
  simp only [List.length_append] at hl hl0
  have hdp : 0 < ds.length := by cases ds with | nil => exact absurd rfl hne | cons _ _ => simp
  have hgd : s.get i = ds.getD 0 0 := by
    have := h.2.1.getD_lt (k := 0) (by omega)
    rw [Nat.add_zero] at this
    rw [← this]
    cases ds with
    | nil => exact absurd rfl hne
    | cons _ _ => rfl
  rw [sliceStrX_both (by omega) (by omega), hls, idxStrX_nat (by omega), hgd]
  have hp2 : D 32 [.ptr b 0, .int .i64 (Int.ofNat 0)] σ2 = some (.int .u8 (Int.ofNat (r'.getD 0 0)), σ2) := hP σ2 b _ 0 s r' x2 (by omega)
  have ek : ∀ κ : Bool → Ans, eqK (.iface true) .nili .nili κ = κ true := fun _ => rfl
  simp only [p1, callK_some_, rtTup_tup, rtCons_cons, rtInt_int, rtNil_nil, ek, joinB_, x2.h1, Bool.not_true, condK_false]
  have fin : (condK false (some (V.tup [.int .i64 (Int.ofNat 0), .str (BS.mk 0 0)], σ2)) (some (V.tup [.int .i64 (Int.ofNat 3), .str (ofN w)], σ2))) = some (V.tup [.int .i64 (Int.ofNat 3), .str (ofN w)], σ2) := rfl
  cases h48 : eqF (Int.ofNat (ds.getD 0 0)) (Int.ofNat 48)
  · simp only [condK_false, hp2, callK_some_, rtInt_int, hLt σ2 _, rtBool_bool, hnext.1]
  · rw [eqF_nat] at h48
    have hh := hlead (of_decide_eq_true h48)
    rw [condK_true, subF_nat (by omega) (by omega), ltF_nat, decide_eq_false (by omega), condK_false, ltF_nat, decide_eq_false hh.2, condK_false]
    simp only [hp2, callK_some_, rtInt_int, hLt σ2 _, rtBool_bool, hnext.1, condK_false]
theorem num_F (hP : SpPeek (D 32)) (hLt : SpLetter (D 34)) (hDg : SpDigit (D 36)) (hI : SpInt (D 50)) (hN : 10000 < N) : SpNum (F37 [] D W N) := by
  intro σ b i s r w r' v h hn
  have hl := h.len; have hb := h.big
  obtain ⟨neg, ds, hw, hds, hne, hv⟩ := hn.ok.ex
  have hdp : 0 < ds.length := by cases ds with | nil => exact absurd rfl hne | cons _ _ => simp
  have hd0 : 48 ≤ ds.getD 0 0 ∧ ds.getD 0 0 ≤ 57 := by
    cases ds with
    | nil => exact absurd rfl hne
    | cons c l => exact hds c (by simp)
  have hp : D 32 [.ptr b 0, .int .i64 (Int.ofNat 0)] σ = some (.int .u8 (Int.ofNat (r.getD 0 0)), σ) := hP σ b i 0 s r h (by omega)
  show ∃ σ', F37 [] D W N [.ptr b 0] σ = _ ∧ _
  have e0 : F37 [] D W N [.ptr b 0] σ = T37_0 [] D W (J37_1 [] D W N) b 0 σ := rfl
  rw [e0]
  simp only [T37_0, h.h1, rtInt_int, hp, callK_some_]
  cases neg
  · have hr : r = ds ++ r' := by rw [hn.eq, hw]; rfl
    have hg : r.getD 0 0 = ds.getD 0 0 := by
      rw [hr]
      cases ds with
      | nil => exact absurd rfl hne
      | cons _ _ => rfl
    rw [hg, eqF_nat, decide_eq_false (by omega), condK_false]
    have hlead : ds.getD 0 0 = 48 → ¬ (1 < ds.length) ∧ ¬ (i < i) := fun h48 => by
      have := (hn.lead false ds hw hds h48).1
      omega
    exact num_tail hP hLt hDg hI hN h hn.eq (hr ▸ h) (by rw [hw]; rfl) (Nat.le_refl _) hds hne hn.ok hlead hn.next
  · have hr : r = 45 :: (ds ++ r') := by rw [hn.eq, hw]; rfl
    have hg : r.getD 0 0 = 45 := by rw [hr]; rfl
    rw [hg, eqF_nat, decide_eq_true rfl, condK_true]
    rw [h.st (k := 1) (by rw [hr]; simp)]
    have h2 := h.go (k := 1) (by rw [hr]; simp)
    have hd1 : r.drop 1 = ds ++ r' := by rw [hr]; rfl
    rw [hd1] at h2
    have hlead : ds.getD 0 0 = 48 → ¬ (1 < ds.length) ∧ ¬ (i < i + 1) := fun h48 => by
      have := (hn.lead true ds hw hds h48).2
      cases this
    obtain ⟨σ', g1, g2⟩ := num_tail (W := W) hP hLt hDg hI hN h hn.eq h2 (by rw [hw]; show i + (ds.length + 1) = _; omega) (by omega) hds hne hn.ok hlead hn.next
    refine ⟨σ', g1, ?_⟩
    have m0 := Mv.step h (k := 1) (by rw [hr]; simp)
    exact m0.trans g2

/-! ### one sign of whatever kind -/
/-- At r there stands one sign, of that kind, text, and what is behind it. -/
inductive Step : List Nat → Nat → List Nat → List Nat → Prop
  | name {r : List Nat} {k : Nat} : letterB (r.getD 0 0) = true → nameK (r.take (nameLen r)) = k + 1 → Step r (k + 1) (r.take (nameLen r)) (r.drop (nameLen r))
  | number {r w r' : List Nat} {v : Int} : NumAt r w r' v → Step r 3 w r'
  | sign {r : List Nat} {t : BS} : letterB (r.getD 0 0) = false → digitB (r.getD 0 0) = false → r.getD 0 0 ≠ 39 → r.getD 0 0 ≠ 34 → (r.getD 0 0 = 45 → digitB (r.getD 1 0) = false) → signOf r = some t → Step r 6 t.nats (r.drop t.len)
def SpToken (F : List V → H → Ans) : Prop := ∀ (σ : H) (b i : Nat) (s : BS) (r w r' : List Nat) (k : Nat), Lx σ b s i r → Step r k w r' →
  ∃ σ' t, F [.ptr b 0] σ = some (.tup [.int .i64 (Int.ofNat k), .str t], σ') ∧ t = ofN w ∧ Mv σ σ' b s r'
theorem signs_canon : ∀ t ∈ signs, t = ofN t.nats := by
  intro t ht
  have : signs.all (fun t => decide (t = ofN t.nats)) = true := by decide +kernel
  exact of_decide_eq_true (List.all_eq_true.1 this t ht)
theorem signIn_mem : ∀ {l : List BS} {r : List Nat} {t : BS}, signIn l r = some t → t ∈ l
  | [], _, _, h => by cases h
  | a :: l, r, t, h => by
    unfold signIn at h
    cases hp : preB a.nats r <;> rw [hp] at h
    · exact List.mem_cons_of_mem _ (signIn_mem h)
    · simp only [Option.some.injEq] at h; subst h; exact List.mem_cons_self
theorem Step.lt {r w r' : List Nat} {k : Nat} (hr : 0 < r.length) (hst : Step r k w r') : r'.length < r.length := by
  cases hst with
  | name hl0 hk' =>
    have : 0 < nameLen r := by
      cases r with
      | nil => simp at hr
      | cons c r0 =>
        have hc : letterB c = true := hl0
        show 0 < (match nameC c r0 with | true => _ | false => _)
        have : nameC c r0 = true := by simp only [nameC, hc, Bool.true_or]
        rw [this]; exact Nat.succ_pos _
    rw [List.length_drop]; omega
  | number hn' =>
    obtain ⟨neg, ds, hw, hds, hne, hv'⟩ := hn'.ok.ex
    have := congrArg List.length hn'.eq
    have hwl : 0 < w.length := by
      rw [hw]
      cases neg
      · cases ds with
        | nil => exact absurd rfl hne
        | cons _ _ => simp [numT]
      · simp [numT]
    simp at this; omega
  | @sign t _ _ _ _ _ hso =>
    have : 0 < t.len := by
      have hm := signIn_mem hso
      have ha : signs.all (fun t => decide (0 < t.len)) = true := by decide +kernel
      exact of_decide_eq_true (List.all_eq_true.1 ha t hm)
    rw [List.length_drop]; omega
theorem token_F (hP : SpPeek (D 32)) (hLt : SpLetter (D 34)) (hDg : SpDigit (D 36)) (hNm : SpTok nameLen (fun r => nameK (r.take (nameLen r))) (fun r => letterB (r.getD 0 0) = true) (D 35))
    (hNu : SpNum (D 37)) (hS : SpSign (D 40)) : SpToken (F19 [] D W N) := by
  intro σ b i s r w r' k h hs
  have hp : D 32 [.ptr b 0, .int .i64 (Int.ofNat 0)] σ = some (.int .u8 (Int.ofNat (r.getD 0 0)), σ) := hP σ b i 0 s r h (by omega)
  have hp1 : D 32 [.ptr b 0, .int .i64 (Int.ofNat 1)] σ = some (.int .u8 (Int.ofNat (r.getD 1 0)), σ) := hP σ b i 1 s r h (by omega)
  have e0 : F19 [] D W N [.ptr b 0] σ = T19_0 [] D W b 0 σ := rfl
  cases hs with
  | name hl hk =>
    obtain ⟨σ', g1, g2⟩ := hNm σ b i s r h hl
    refine ⟨σ', _, ?_, rfl, g2⟩
    rw [e0]
    simp only [] at g1
    rw [hk] at g1
    simp only [T19_0, hp, callK_some_, rtInt_int, hLt σ _, rtBool_bool, hl, condK_true, g1, tokOf, rtTup_tup, rtCons_cons, rtStr_str, rtNil_nil]
  | number hn =>
    obtain ⟨σ', g1, g2⟩ := hNu σ b i s r w r' _ h hn
    refine ⟨σ', _, ?_, rfl, g2⟩
    obtain ⟨neg, ds, hw, hds, hne, hv⟩ := hn.ok.ex
    have hd0 : digitB (ds.getD 0 0) = true := by
      cases ds with
      | nil => exact absurd rfl hne
      | cons c l => exact (digitB_iff c).2 (hds c (by simp))
    have hdl : ∀ c, digitB c = true → letterB c = false := fun c hc => by
      have := (digitB_iff c).1 hc
      unfold letterB; rw [leF_nat, leF_nat, leF_nat, leF_nat]
      rw [decide_eq_false (show ¬ 97 ≤ c by omega), decide_eq_false (show ¬ 65 ≤ c by omega)]; rfl
    rw [e0]
    cases neg
    · have hg : r.getD 0 0 = ds.getD 0 0 := by
        rw [hn.eq, hw]
        cases ds with
        | nil => exact absurd rfl hne
        | cons _ _ => rfl
      rw [hg] at hp
      simp only [T19_0, hp, callK_some_, rtInt_int, hLt σ _, hDg σ _, rtBool_bool, hd0, hdl _ hd0, condK_true, condK_false, joinB_, g1, rtTup_tup, rtCons_cons, rtStr_str, rtNil_nil]
    · have hg : r.getD 0 0 = 45 := by rw [hn.eq, hw]; rfl
      have hg1 : r.getD 1 0 = ds.getD 0 0 := by
        rw [hn.eq, hw]
        cases ds with
        | nil => exact absurd rfl hne
        | cons _ _ => rfl
      rw [hg] at hp
      rw [hg1] at hp1
      have l45 : letterB 45 = false := rfl
      have d45 : digitB 45 = false := rfl
      have q45 : eqF (Int.ofNat 45) (Int.ofNat 45) = true := rfl
      simp only [T19_0, hp, hp1, callK_some_, rtInt_int, hLt σ _, hDg σ _, rtBool_bool, hd0, l45, d45, q45, condK_true, condK_false, joinB_, g1, rtTup_tup, rtCons_cons, rtStr_str, rtNil_nil]
  | @sign t hl hd h39 h34 h45 hso =>
    obtain ⟨σ', g1, g2⟩ := hS σ b i s r h
    rw [hso] at g1
    have hsl : signLen r = t.len := by unfold signLen; rw [hso]
    rw [hsl] at g2
    refine ⟨σ', t, ?_, signs_canon t (signIn_mem hso), g2⟩
    simp only [] at g1
    rw [e0]
    simp only [T19_0, hp, hp1, callK_some_, rtInt_int, hLt σ _, hDg σ _, rtBool_bool, hl, hd, condK_true, condK_false, joinB_, eqF_nat, decide_eq_false h39, decide_eq_false h34, g1, rtTup_tup, rtCons_cons, rtStr_str, rtNil_nil]
    by_cases hc : r.getD 0 0 = 45
    · rw [decide_eq_true hc, condK_true, h45 hc, condK_false]
    · rw [decide_eq_false hc, condK_false]

/-! ### all of them -/
/-- The signs of a text from r on, where nothing white stands ahead: kind, text, and place. -/
inductive Toks (N len : Nat) : List Nat → List (Nat × List Nat × Nat) → Prop
  | nil : Toks N len [] []
  | cons {r w r' : List Nat} {k : Nat} {ts : List (Nat × List Nat × Nat)} : 0 < r.length → 0 < k → Step r k w r' → Toks N len (skipF N r') ts → Toks N len r ((k, w, len - r.length) :: ts)
def tokCells (ts : List (Nat × List Nat × Nat)) : List V := ts.flatMap fun t => [.int .i64 (Int.ofNat t.1), .str (ofN t.2.1), .int .i64 (Int.ofNat t.2.2)]
theorem tokCells_len (ts : List (Nat × List Nat × Nat)) : (tokCells ts).length = ts.length * 3 := by
  unfold tokCells
  induction ts with
  | nil => rfl
  | cons t ts ih => simp only [List.flatMap_cons, List.length_append, ih, List.length_cons, List.length_nil]; omega
theorem tokCells_app (a b : List (Nat × List Nat × Nat)) : tokCells (a ++ b) = tokCells a ++ tokCells b := List.flatMap_append
theorem grow3 {k : Nat} (h : k ≤ 10001) : growable k 32 = true := by
  unfold growable
  rw [Bool.and_eq_true]
  exact ⟨ble_of (by omega), ble_of (by omega)⟩
theorem toks_L (hT : SpToken (D 19)) (hK : SpSkip N (D 18)) (s : BS) : ∀ (n : Nat) (r : List Nat) (ts acc : List (Nat × List Nat × Nat)) (σ : H) (b i : Nat) (v : V), ts.length < n → acc.length + r.length ≤ 10000 → Lx σ b s i r → Toks N s.len r ts →
    Sl σ 3 acc.length v (tokCells acc) → (∀ c, Names v c → c ≠ b) →
    ∃ σ' u, L11_2 [] D W N n s b 0 v σ = some (.tup [u, .int .i64 (Int.ofNat 0), .int .i64 (Int.ofNat 0)], σ') ∧ Sl σ' 3 (acc.length + ts.length + 1) u (tokCells (acc ++ ts ++ [(0, [], s.len)])) ∧
      Fr (fun c => c = b ∨ Names v c) σ σ'
  | 0, _, _, _, _, _, _, _, hn, _, _, _, _, _ => absurd hn (Nat.not_lt_zero _)
  | n + 1, r, ts, acc, σ, b, i, v, hn, ha, h, ht, hv, hvb => by
    have hl := h.len; have hb := h.big
    have e : L11_2 [] D W N (n + 1) s b 0 v σ = T11_2 [] D W (J11_1 [] D W N) (L11_2 [] D W N n) s b 0 v σ := rfl
    rw [e]
    simp only [T11_2, h.h1, rtInt_int, ltF_nat]
    cases ht with
    | nil =>
      rw [decide_eq_false (by simp at hl; omega), condK_false]
      show ∃ σ' u, T11_1 [] D W s v σ = _ ∧ _
      have f1 : Fr (fun c => c = b ∨ Names v c) σ (newB σ (.cells [.int .i64 (Int.ofNat 0), .str (BS.mk 0 0), .int .i64 (Int.ofNat s.len)])) := Fr.new h.tidy _
      have hv1 := hv.fr (Fr.new (S := Nowhere) h.tidy (.cells [.int .i64 (Int.ofNat 0), .str (BS.mk 0 0), .int .i64 (Int.ofNat s.len)])) h.tidy (fun _ _ h => h)
      obtain ⟨σ2, a1, a2, a3, a4⟩ := app_one (E := []) (bytes := 32) hv1 f1.tidy (Atc_newB _) rfl rfl (grow3 (by omega))
      refine ⟨σ2, .sl (σ.next + 1) 0 (acc.length + 1) (.op 3), ?_, ?_, ?_⟩
      · unfold T11_1
        exact a1 _
      · refine .inr ⟨_, rfl, ?_, by omega, ?_⟩
        · rw [List.append_nil, tokCells_app]
          exact a2
        · rw [tokCells_len]; simp
      · exact f1.trans a4 (fun _ _ h => .inr h)
    | @cons _ w r' k ts' hr hk hst htl =>
      rw [decide_eq_true (by omega), condK_true]
      obtain ⟨σ1, t, g1, gt, g2⟩ := hT σ b i s r w r' k h hst
      subst gt
      obtain ⟨i1, x1⟩ := g2.at_
      have hk0 : eqF (Int.ofNat k) (Int.ofNat 0) = false := by rw [eqF_nat]; exact decide_eq_false (by omega)
      simp only [g1, callK_some_, rtTup_tup, rtCons_cons, rtInt_int, rtStr_str, rtNil_nil, hk0, condK_false]
      have hv1 : Sl σ1 3 acc.length v (tokCells acc) := hv.fr g2.fr h.tidy (fun c hc => hvb c hc)
      have f2 : Fr Nowhere σ1 (newB σ1 (.cells [.int .i64 (Int.ofNat k), .str (ofN w), .int .i64 (Int.ofNat i)])) := Fr.new x1.tidy _
      have hv2 := hv1.fr f2 x1.tidy (fun _ _ h => h)
      have hbn : b < σ.next := h.lt
      obtain ⟨σ3, a1, a2, a3, a4⟩ := app_one (E := []) (bytes := 32) hv2 f2.tidy (Atc_newB _) rfl rfl (grow3 (by omega))
      have f3 : Fr (fun c => Names v c) σ1 σ3 := (f2.mono (T := fun c => Names v c) (fun _ _ h => h.elim)).trans a4 (fun _ _ h => h)
      have x3 : Lx σ3 b s i1 r' := ⟨f3.at_ x1.1 x1.tidy (fun hc => hvb b hc rfl), x1.2.1, x1.big, a4.tidy⟩
      obtain ⟨σ4, k1, k2⟩ := hK σ3 b i1 s r' x3
      obtain ⟨i4, x4⟩ := k2.at_
      have hi : i = s.len - r.length := by omega
      have hlr := Step.lt hr hst
      have hsk := skipF_le N r'
      have hlen1 : (acc ++ [(k, w, i)]).length = acc.length + 1 := by simp
      have hcell : tokCells (acc ++ [(k, w, i)]) = tokCells acc ++ [.int .i64 (Int.ofNat k), .str (ofN w), .int .i64 (Int.ofNat i)] := by rw [tokCells_app]; rfl
      have hv4 : Sl σ4 3 (acc ++ [(k, w, i)]).length (.sl (newB σ1 (.cells [.int .i64 (Int.ofNat k), .str (ofN w), .int .i64 (Int.ofNat i)])).next 0 (acc.length + 1) (.op 3)) (tokCells (acc ++ [(k, w, i)])) := by
        refine .inr ⟨_, by rw [hlen1], ?_, by omega, by rw [tokCells_len]⟩
        have hne : (newB σ1 (.cells [.int .i64 (Int.ofNat k), .str (ofN w), .int .i64 (Int.ofNat i)])).next ≠ b := by
          have := g2.fr.le
          show σ1.next + 1 ≠ b
          omega
        rw [hcell]
        exact k2.fr.at_ a2 a4.tidy hne
      have hnb : ∀ c, Names (.sl (newB σ1 (.cells [.int .i64 (Int.ofNat k), .str (ofN w), .int .i64 (Int.ofNat i)])).next 0 (acc.length + 1) (.op 3)) c → c ≠ b := fun c hc => by
        have hc' : c = σ1.next + 1 := hc
        have := g2.fr.le
        omega
      obtain ⟨σ5, u, z1, z2, z3⟩ := toks_L hT hK s n (skipF N r') ts' (acc ++ [(k, w, i)]) σ4 b i4 _ (by simp at hn; omega) (by rw [hlen1]; omega) x4 htl hv4 hnb
      refine ⟨σ5, u, ?_, ?_, ?_⟩
      · rw [a1]
        show callK (D 18 [.ptr b 0] σ3) _ = _
        rw [k1]
        exact z1
      · rw [hi] at z2
        have e3 : (acc ++ [(k, w, s.len - r.length)]).length + ts'.length + 1 = acc.length + ((k, w, s.len - r.length) :: ts').length + 1 := by simp; omega
        rw [e3] at z2
        have e4 : acc ++ [(k, w, s.len - r.length)] ++ ts' ++ [(0, [], s.len)] = acc ++ ((k, w, s.len - r.length) :: ts') ++ [(0, [], s.len)] := by simp
        rw [e4] at z2
        exact z2
      · have q1 : Fr (fun c => c = b ∨ Names v c) σ σ1 := g2.fr.mono (fun _ _ h => .inl h)
        have q3 := q1.trans f3 (fun _ _ h => .inr h)
        have q4 := q3.trans k2.fr (fun _ _ h => .inl h)
        refine q4.trans z3 (fun c hc hh => ?_)
        rcases hh with hh | hh
        · exact .inl hh
        · have hc' : c = σ1.next + 1 := hh
          have := g2.fr.le
          omega
def SpTokens (N : Nat) (F : List V → H → Ans) : Prop := ∀ (σ : H) (s : BS) (ts : List (Nat × List Nat × Nat)), Tidy σ → s.len ≤ 8000 → Toks N s.len (skipF N s.nats) ts →
  ∃ σ' u, F [.str s] σ = some (.tup [u, .int .i64 (Int.ofNat 0), .int .i64 (Int.ofNat 0)], σ') ∧ Sl σ' 3 (ts.length + 1) u (tokCells (ts ++ [(0, [], s.len)])) ∧ Fr Nowhere σ σ'
theorem Toks.len {N len : Nat} {r : List Nat} {ts : List (Nat × List Nat × Nat)} (h : Toks N len r ts) : ts.length ≤ r.length := by
  induction h with
  | nil => exact Nat.le_refl _
  | @cons r w r' k ts hr hk hst _ ih =>
    have h1 := skipF_le N r'
    have h2 := Step.lt hr hst
    simp only [List.length_cons]; omega
theorem tokens_F (hT : SpToken (D 19)) (hK : SpSkip N (D 18)) (hN : 10000 < N) : SpTokens N (F11 [] D W N) := by
  intro σ s ts ht hs hts
  have x1 : Lx (newB σ (.cells [.str s, .int .i64 (Int.ofNat 0)])) σ.next s 0 s.nats := ⟨Atc_newB _, Rst.start s, by omega, (Fr.new (S := Nowhere) ht _).tidy⟩
  obtain ⟨σ2, k1, k2⟩ := hK _ σ.next 0 s s.nats x1
  obtain ⟨i2, x2⟩ := k2.at_
  have hl := hts.len
  have hk := skipF_le N s.nats
  rw [BS.length_nats] at hk
  obtain ⟨σ3, u, z1, z2, z3⟩ := toks_L (W := W) hT hK s N (skipF N s.nats) ts [] σ2 σ.next i2 .nils (by omega) (by simp; omega) x2 hts (Sl.nil σ2 3) (fun _ h => h.elim)
  refine ⟨σ3, u, ?_, ?_, ?_⟩
  · show T11_0 [] D W (L11_2 [] D W N N) s σ = _
    simp only [T11_0, ltF_nat]
    rw [decide_eq_false (by omega), condK_false]
    show callK (D 18 [.ptr σ.next 0] (newB σ (.cells [.str s, .int .i64 (Int.ofNat 0)]))) _ = _
    rw [k1]
    exact z1
  · have : ([] : List (Nat × List Nat × Nat)).length + ts.length + 1 = ts.length + 1 := by simp
    rw [this] at z2
    exact z2
  · have q1 : Fr Nowhere σ (newB σ (.cells [.str s, .int .i64 (Int.ofNat 0)])) := Fr.new ht _
    have q2 := q1.trans k2.fr (fun c hc h => by have h : c = σ.next := h; omega)
    exact q2.trans z3 (fun c hc h => by
      rcases h with h | h
      · omega
      · exact h.elim)
end
end
end Go.Proofs.YtjolbidcficdhaaDoor
