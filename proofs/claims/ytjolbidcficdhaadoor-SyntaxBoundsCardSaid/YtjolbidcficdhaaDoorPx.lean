/- The parser's small functions over a list of signs. -/
import Derived.Test.YtjolbidcficdhaaDoorLw
set_option linter.all false
set_option maxRecDepth 100000
namespace Go.Proofs.YtjolbidcficdhaaDoor
open Go Go.Og
noncomputable section

abbrev Tk := Nat × List Nat × Nat
def tokV (t : Tk) : V := .agg [.int .i64 (Int.ofNat t.1), .str (ofN t.2.1), .int .i64 (Int.ofNat t.2.2)]
def pcells (tb n j : Nat) (m : List V) : List V := .sl tb 0 n (.op 3) :: .int .i64 (Int.ofNat j) :: m
structure Px (σ : H) (p tb : Nat) (ts : List Tk) (j : Nat) (m : List V) : Prop where
  at_ : Atc σ p (pcells tb ts.length j m)
  tok : Atc σ tb (tokCells ts)
  ne : tb ≠ p
  tidy : Tidy σ
  big : ts.length ≤ 10001
  last : ∀ i t, ts[i]? = some t → t.1 ≠ 0 → i + 1 < ts.length
def pset (σ : H) (p tb : Nat) (ts : List Tk) (j : Nat) (m : List V) : H := setF σ p (.cells (pcells tb ts.length j m))
section
variable {σ σ' : H} {p tb j j' : Nat} {ts : List Tk} {m m' : List V} {S : Nat → Prop} {t : Tk}
theorem Px.lt (h : Px σ p tb ts j m) : p < σ.next := h.at_.lt h.tidy
theorem Px.tlt (h : Px σ p tb ts j m) : tb < σ.next := h.tok.lt h.tidy
theorem Px.set (h : Px σ p tb ts j m) (j' : Nat) (m' : List V) : Px (pset σ p tb ts j' m') p tb ts j' m' := by
  have f := Fr.set h.tidy h.lt (.cells (pcells tb ts.length j' m'))
  exact ⟨Atc_setF _, f.at_ h.tok h.tidy h.ne, h.ne, f.tidy, h.big, h.last⟩
theorem Px.setFr (h : Px σ p tb ts j m) (j' : Nat) (m' : List V) : Fr (fun k => k = p) σ (pset σ p tb ts j' m') := Fr.set h.tidy h.lt _
theorem Px.fr (h : Px σ p tb ts j m) (f : Fr S σ σ') (h1 : ¬ S p) (h2 : ¬ S tb) : Px σ' p tb ts j m :=
  ⟨f.at_ h.at_ h.tidy h1, f.at_ h.tok h.tidy h2, h.ne, f.tidy, h.big, h.last⟩
theorem Px.h0 (h : Px σ p tb ts j m) (κ : V → Ans) : ldK [] σ p 0 κ = κ (.sl tb 0 ts.length (.op 3)) := ldK_at h.at_ rfl
theorem Px.h1 (h : Px σ p tb ts j m) (κ : V → Ans) : ldK [] σ p (Nat.add 0 1) κ = κ (.int .i64 (Int.ofNat j)) := ldK_at h.at_ rfl
theorem tok_split : ∀ {ts : List Tk} {j : Nat} {t : Tk}, ts[j]? = some t → ∃ a b, ts = a ++ t :: b ∧ a.length = j := by
  intro ts j t h
  obtain ⟨hj, hg⟩ := List.getElem?_eq_some_iff.1 h
  refine ⟨ts.take j, ts.drop (j + 1), ?_, by rw [List.length_take]; omega⟩
  have h1 := (List.take_append_drop j ts).symm
  rw [List.drop_eq_getElem_cons hj, hg] at h1
  exact h1
theorem tok_get (h : ts[j]? = some t) : ((tokCells ts).drop (Nat.add 0 (Nat.mul j 3))).take 3 = [.int .i64 (Int.ofNat t.1), .str (ofN t.2.1), .int .i64 (Int.ofNat t.2.2)] := by
  obtain ⟨a, b, rfl, hl⟩ := tok_split h
  have e : Nat.add 0 (Nat.mul j 3) = (tokCells a).length := by rw [tokCells_len, hl]; show 0 + j * 3 = _; omega
  rw [e, tokCells_app, List.drop_left]
  rfl
theorem Px.get (h : Px σ p tb ts j m) (ht : ts[j]? = some t) (κ : List V → Ans) :
    iaddrSK 3 (.sl tb 0 ts.length (.op 3)) (Int.ofNat j) (fun b4 o5 => ldnK [] σ b4 o5 3 κ) = κ [.int .i64 (Int.ofNat t.1), .str (ofN t.2.1), .int .i64 (Int.ofNat t.2.2)] := by
  obtain ⟨hj, _⟩ := List.getElem?_eq_some_iff.1 ht
  show chk (Nat.blt j ts.length) _ = _
  rw [chk_true (by simp [Nat.blt_eq]; exact hj)]
  have hl : Nat.add 0 (Nat.mul j 3) + 3 ≤ (tokCells ts).length := by rw [tokCells_len]; show 0 + j * 3 + 3 ≤ _; omega
  show ldnK [] σ tb (Nat.add 0 (Nat.mul j 3)) 3 κ = _
  rw [ldnK_at h.tok hl, tok_get ht]
theorem spl_pc (tb n j j' : Nat) (m : List V) : spl (pcells tb n j m) (Nat.add 0 1) [.int .i64 (Int.ofNat j')] = pcells tb n j' m := by
  cases m <;> rfl
end

def SpSPeek (F : List V → H → Ans) : Prop := ∀ (σ : H) (p tb j : Nat) (ts : List Tk) (m : List V) (t : Tk), Px σ p tb ts j m → ts[j]? = some t → F [.ptr p 0] σ = some (tokV t, σ)
def SpNext (F : List V → H → Ans) : Prop := ∀ (σ : H) (p tb j : Nat) (ts : List Tk) (m : List V) (t : Tk), Px σ p tb ts j m → ts[j]? = some t →
  F [.ptr p 0] σ = some (tokV t, match t.1 with | 0 => σ | _ + 1 => pset σ p tb ts (j + 1) m)
def stB (t : Tk) (s : BS) : Bool := (eqF (Int.ofNat t.1) (Int.ofNat 5) || eqF (Int.ofNat t.1) (Int.ofNat 6)) && BS.beq (ofN t.2.1) s
def SpStands (F : List V → H → Ans) : Prop := ∀ (σ : H) (p tb j : Nat) (ts : List Tk) (m : List V) (t : Tk) (s : BS), Px σ p tb ts j m → ts[j]? = some t → F [.ptr p 0, .str s] σ = some (.bool (stB t s), σ)
def SpIs (F : List V → H → Ans) : Prop := ∀ (σ : H) (p tb j : Nat) (ts : List Tk) (m : List V) (t : Tk) (s : BS), Px σ p tb ts j m → ts[j]? = some t →
  F [.ptr p 0, .str s] σ = some (.bool (stB t s), match stB t s with | true => pset σ p tb ts (j + 1) m | false => σ)
section
variable {D : Den} {W : DrawFn} {N : Nat}
theorem speek_F : SpSPeek (F23 [] D W N) := by
  intro σ p tb j ts m t h ht
  simp only [F23, J23_0, T23_0, rtCons_cons, rtPtr_ptr, rtNil_nil, h.h0, h.h1, rtInt_int]
  rw [h.get ht]
  simp only [rtCons_cons, rtInt_int, rtStr_str, rtNil_nil, tokV]
theorem next_F : SpNext (F42 [] D W N) := by
  intro σ p tb j ts m t h ht
  simp only [F42, J42_0, T42_0, rtCons_cons, rtPtr_ptr, rtNil_nil, h.h0, h.h1, rtInt_int]
  rw [h.get ht]
  simp only [rtCons_cons, rtInt_int, rtStr_str, rtNil_nil]
  have hj := (List.getElem?_eq_some_iff.1 ht).1
  have hb := h.big
  cases h0 : t.1 with
  | zero =>
    show some (V.agg [.int .i64 (Int.ofNat 0), _, _], σ) = some (tokV t, σ)
    unfold tokV
    rw [h0]
  | succ k =>
    have e : eqF (Int.ofNat (k + 1)) (Int.ofNat 0) = false := by rw [eqF_nat]; exact decide_eq_false (by omega)
    rw [e]
    simp only [Bool.not_false, condK_true]
    rw [addF_nat (by omega), stK_at h.at_ rfl]
    show some (V.agg [.int .i64 (Int.ofNat (k + 1)), _, _], setF σ p (.cells (spl (pcells tb ts.length j m) (Nat.add 0 1) [.int .i64 (Int.ofNat (j + 1))]))) = some (tokV t, _)
    rw [spl_pc]
    unfold tokV
    rw [h0]
    rfl
theorem stands_F (hP : SpSPeek (D 23)) : SpStands (F22 [] D W N) := by
  intro σ p tb j ts m t s h ht
  simp only [F22, J22_0, T22_0, rtCons_cons, rtStr_str, rtNil_nil, hP σ p tb j ts m t h ht, callK_some_, tokV, rtAgg_agg, rtInt_int, joinB_, stB]
  cases eqF (Int.ofNat t.1) (Int.ofNat 5) <;> cases eqF (Int.ofNat t.1) (Int.ofNat 6) <;> cases BS.beq (ofN t.2.1) s <;> rfl
theorem is_F (hS : SpStands (D 22)) (hX : SpNext (D 42)) : SpIs (F43 [] D W N) := by
  intro σ p tb j ts m t s h ht
  simp only [F43, J43_0, T43_0, rtCons_cons, rtStr_str, rtNil_nil, hS σ p tb j ts m t s h ht, callK_some_, rtBool_bool]
  cases hb : stB t s
  · rfl
  · have hk : ∃ k, t.1 = k + 1 := by
      unfold stB at hb
      rw [eqF_nat, eqF_nat] at hb
      simp only [Bool.and_eq_true, Bool.or_eq_true, decide_eq_true_eq] at hb
      exact ⟨t.1 - 1, by omega⟩
    obtain ⟨k, hk⟩ := hk
    have hx := hX σ p tb j ts m t h ht
    rw [hk] at hx
    simp only [Bool.not_true, condK_false, hx, callK_some_, tokV, rtAgg_agg, rtCons_cons, rtInt_int, rtStr_str, rtNil_nil]
end

/-! ### want: what is asked for stands there -/
def Stand (ts : List Tk) : Nat → List BS → Prop
  | _, [] => True
  | j, s :: l => (∃ t, ts[j]? = some t ∧ stB t s = true) ∧ Stand ts (j + 1) l
def SpWant (F : List V → H → Ans) : Prop := ∀ (σ : H) (p tb j sb : Nat) (ts : List Tk) (m : List V) (l : List BS), Px σ p tb ts j m → Atc σ sb (l.map .str) → sb ≠ p → Stand ts j l → l.length ≤ 5 →
  ∃ σ', F [.ptr p 0, .sl sb 0 l.length (.ex l.length)] σ = some (.bool true, σ') ∧ Px σ' p tb ts (j + l.length) m ∧ Fr (fun k => k = p) σ σ'
theorem Stand.get : ∀ {l : List BS} {ts : List Tk} {j q : Nat} {s : BS}, Stand ts j l → l[q]? = some s → ∃ t, ts[j + q]? = some t ∧ stB t s = true
  | [], _, _, _, _, _, h => by simp at h
  | a :: l, ts, j, 0, s, hs, h => by simp at h; subst h; exact hs.1
  | a :: l, ts, j, q + 1, s, hs, h => by
    have := hs.2.get (q := q) (by simpa using h)
    rw [show j + (q + 1) = j + 1 + q by omega]; exact this
section
variable {D : Den} {W : DrawFn} {N : Nat}
theorem want_L (hI : SpIs (D 43)) (p tb j0 sb : Nat) (ts : List Tk) (m : List V) (l : List BS) (hl5 : l.length ≤ 5) (hst : Stand ts j0 l) (hne : sb ≠ p) : ∀ (k q n : Nat) (σ : H), q + k = l.length → k < n → Px σ p tb ts (j0 + q) m → Atc σ sb (l.map .str) →
    ∃ σ', L21_2 [] D W N n p 0 (.sl sb 0 l.length (.ex l.length)) (Int.ofNat l.length) (Int.ofNat q) σ = some (.bool true, σ') ∧ Px σ' p tb ts (j0 + l.length) m ∧ Fr (fun k => k = p) σ σ'
  | k, q, 0, _, _, hn, _, _ => absurd hn (Nat.not_lt_zero _)
  | 0, q, n + 1, σ, hq, hn, h, hs => by
    have : q = l.length := by omega
    subst this
    refine ⟨σ, ?_, h, Fr.refl h.tidy⟩
    show T21_2 [] D W (J21_1 [] D W N) (L21_2 [] D W N n) p 0 (.sl sb 0 l.length (.ex l.length)) (Int.ofNat l.length) (Int.ofNat l.length) σ = _
    simp only [T21_2, ltF_nat]
    rw [decide_eq_false (by omega), condK_false]
    rfl
  | k + 1, q, n + 1, σ, hq, hn, h, hs => by
    have hql : q < l.length := by omega
    obtain ⟨t, ht, hb⟩ := hst.get (List.getElem?_eq_getElem hql)
    have hia : ∀ κ : Nat → Nat → Ans, iaddrSK 1 (.sl sb 0 l.length (.ex l.length)) (Int.ofNat q) κ = κ sb (Nat.add 0 (Nat.mul q 1)) := fun κ => by
      show chk (Nat.blt q l.length) _ = _
      exact chk_true (by simp [Nat.blt_eq]; omega)
    have hld : ∀ κ : V → Ans, ldK [] σ sb (Nat.add 0 (Nat.mul q 1)) κ = κ (.str l[q]) := fun κ => ldK_get hs (by
      have : Nat.add 0 (Nat.mul q 1) = q := by show 0 + q * 1 = q; omega
      rw [this, List.getElem?_map, List.getElem?_eq_getElem hql]; rfl)
    have hi := hI σ p tb (j0 + q) ts m t l[q] h ht
    rw [hb] at hi
    simp only [] at hi
    show ∃ σ', T21_2 [] D W (J21_1 [] D W N) (L21_2 [] D W N n) p 0 (.sl sb 0 l.length (.ex l.length)) (Int.ofNat l.length) (Int.ofNat q) σ = _ ∧ _
    simp only [T21_2, ltF_nat, hia, hld, rtStr_str, hi, callK_some_, rtBool_bool]
    rw [decide_eq_true (by omega), condK_true]
    simp only [Bool.not_true, condK_false]
    rw [addF_nat (by omega)]
    have f := h.setFr (j0 + q + 1) m
    obtain ⟨σ', g1, g2, g3⟩ := want_L hI p tb j0 sb ts m l hl5 hst hne k (q + 1) n (pset σ p tb ts (j0 + q + 1) m) (by omega) (by omega) (h.set (j0 + q + 1) m) (f.at_ hs h.tidy hne)
    exact ⟨σ', g1, g2, f.trans g3 (fun _ _ h => h)⟩
theorem want_F (hI : SpIs (D 43)) (hN : 10000 < N) : SpWant (F21 [] D W N) := by
  intro σ p tb j sb ts m l h hs hne hst hl5
  obtain ⟨σ', g1, g2, g3⟩ := want_L (N := N) (W := W) hI p tb j sb ts m l hl5 hst hne l.length 0 N σ (by omega) (by omega) h hs
  exact ⟨σ', g1, g2, g3⟩
end

/-! ### of, number -/
def SpOf (F : List V → H → Ans) : Prop := ∀ (σ : H) (p tb j : Nat) (ts : List Tk) (m : List V) (t : Tk), Px σ p tb ts j m → ts[j]? = some t →
  ∃ σ', F [.ptr p 0, .int .i64 (Int.ofNat t.1)] σ = some (.tup [tokV t, .bool true], σ') ∧ Px σ' p tb ts (match t.1 with | 0 => j | _ + 1 => j + 1) m ∧ Fr (fun k => k = p) σ σ'
def SpPNum (F : List V → H → Ans) : Prop := ∀ (σ : H) (p tb j : Nat) (ts : List Tk) (m : List V) (w : List Nat) (a : Nat) (v : Int), Px σ p tb ts j m → ts[j]? = some (3, w, a) → NumOk w v →
  ∃ σ', F [.ptr p 0] σ = some (.tup [.int .i64 v, tokV (3, w, a), .bool true], σ') ∧ Px σ' p tb ts (j + 1) m ∧ Fr (fun k => k = p) σ σ'
section
variable {D : Den} {W : DrawFn} {N : Nat}
theorem of_F (hP : SpSPeek (D 23)) (hX : SpNext (D 42)) : SpOf (F20 [] D W N) := by
  intro σ p tb j ts m t h ht
  let z : Blk := .cells [.int .i64 (Int.ofNat 0), .str ⟨0, 0⟩, .int .i64 (Int.ofNat 0)]
  have f1 : Fr Nowhere σ (newB σ z) := Fr.new h.tidy _
  have h1 := h.fr f1 (fun h => h) (fun h => h)
  have f2 : Fr Nowhere (newB σ z) (newB (newB σ z) z) := Fr.new h1.tidy _
  have h2 := h1.fr f2 (fun h => h) (fun h => h)
  have a1 : Atc (newB σ z) σ.next [.int .i64 (Int.ofNat 0), .str ⟨0, 0⟩, .int .i64 (Int.ofNat 0)] := Atc_newB _
  have a2 : Atc (newB (newB σ z) z) (σ.next + 1) [.int .i64 (Int.ofNat 0), .str ⟨0, 0⟩, .int .i64 (Int.ofNat 0)] := Atc_newB _
  have b1 : Atc (newB (newB σ z) z) σ.next [.int .i64 (Int.ofNat 0), .str ⟨0, 0⟩, .int .i64 (Int.ofNat 0)] := f2.at_ a1 h1.tidy (fun h => h)
  have lp := h.lt; have ltb := h.tlt
  let tc : List V := [.int .i64 (Int.ofNat t.1), .str (ofN t.2.1), .int .i64 (Int.ofNat t.2.2)]
  let s15 : H := setF (newB (newB σ z) z) (σ.next + 1) (.cells tc)
  have f3 : Fr (fun k => k = σ.next + 1) (newB (newB σ z) z) s15 := Fr.set h2.tidy (a2.lt h2.tidy) _
  have h3 : Px s15 p tb ts j m := h2.fr f3 (by omega) (by omega)
  have a3 : Atc s15 (σ.next + 1) tc := Atc_setF _
  have b3 : Atc s15 σ.next [.int .i64 (Int.ofNat 0), .str ⟨0, 0⟩, .int .i64 (Int.ofNat 0)] := f3.at_ b1 h2.tidy (by omega)
  let s27 : H := match t.1 with | 0 => s15 | _ + 1 => pset s15 p tb ts (j + 1) m
  have h4 : Px s27 p tb ts (match t.1 with | 0 => j | _ + 1 => j + 1) m := by
    show Px (match t.1 with | 0 => s15 | _ + 1 => pset s15 p tb ts (j + 1) m) p tb ts _ m
    cases t.1
    · exact h3
    · exact h3.set (j + 1) m
  have f4 : Fr (fun k => k = p) s15 s27 := by
    show Fr (fun k => k = p) s15 (match t.1 with | 0 => s15 | _ + 1 => pset s15 p tb ts (j + 1) m)
    cases t.1
    · exact Fr.refl h3.tidy
    · exact h3.setFr (j + 1) m
  have b4 : Atc s27 σ.next [.int .i64 (Int.ofNat 0), .str ⟨0, 0⟩, .int .i64 (Int.ofNat 0)] := f4.at_ b3 h3.tidy (by omega)
  have f5 : Fr (fun k => k = σ.next) s27 (setF s27 σ.next (.cells tc)) := Fr.set h4.tidy (b4.lt h4.tidy) _
  refine ⟨setF s27 σ.next (.cells tc), ?_, h4.fr f5 (by omega) (by omega), ?_⟩
  · show T20_0 [] D W p 0 (Int.ofNat t.1) σ = _
    unfold T20_0
    show callK (D 23 [.ptr p 0] (newB σ z)) _ = _
    rw [hP _ p tb j ts m t h1 ht]
    simp only [callK_some_, tokV, rtAgg_agg, rtCons_cons, rtInt_int, rtStr_str, rtNil_nil]
    show stK 3 (σ.next + 1) 0 _ (newB (newB σ z) z) _ = _
    rw [stK_at a2 rfl]
    show ldK [] s15 (σ.next + 1) 0 _ = _
    rw [ldK_at a3 rfl]
    simp only [rtInt_int]
    rw [show eqF (Int.ofNat t.1) (Int.ofNat t.1) = true by rw [eqF_nat]; exact decide_eq_true rfl]
    simp only [Bool.not_true, condK_false]
    have hx := hX s15 p tb j ts m t h3 ht
    have hx' : D 42 [.ptr p 0] s15 = some (tokV t, s27) := hx
    show callK (D 42 [.ptr p 0] s15) _ = _
    rw [hx']
    simp only [callK_some_, tokV, rtAgg_agg, rtCons_cons, rtInt_int, rtStr_str, rtNil_nil]
    show stK 3 σ.next 0 _ s27 _ = _
    rw [stK_at b4 rfl]
    have a5 : Atc (setF s27 σ.next (.cells tc)) σ.next tc := Atc_setF _
    show ldnK [] (setF s27 σ.next (.cells tc)) σ.next 0 3 _ = _
    rw [ldnK_at a5 (by show 0 + 3 ≤ 3; omega)]
    rfl
  · have q1 : Fr (fun k => k = p) σ (newB (newB σ z) z) := (f1.trans f2 (fun _ _ h => h)).mono (fun _ _ h => h.elim)
    have q2 := q1.trans f3 (fun c hc h => by have h : c = σ.next + 1 := h; omega)
    have q3 := q2.trans f4 (fun _ _ h => h)
    exact q3.trans f5 (fun c hc h => by have h : c = σ.next := h; omega)
theorem pnum_F (hO : SpOf (D 20)) (hI : SpInt (D 50)) : SpPNum (F73 [] D W N) := by
  intro σ p tb j ts m w a v h ht hw
  obtain ⟨σ1, g1, g2, g3⟩ := hO σ p tb j ts m (3, w, a) h ht
  obtain ⟨σ2, k1, k2⟩ := hI σ1 w v g2.tidy hw
  have g1' : D 20 [.ptr p 0, .int .i64 (Int.ofNat 3)] σ = some (.tup [tokV (3, w, a), .bool true], σ1) := g1
  refine ⟨σ2, ?_, g2.fr k2 (fun h => h) (fun h => h), g3.trans k2 (fun _ _ h => h.elim)⟩
  simp only [F73, J73_0, T73_0, rtCons_cons, rtNil_nil, g1', callK_some_, rtTup_tup, tokV, rtAgg_agg, rtInt_int, rtStr_str, rtBool_bool, Bool.not_true, condK_false, k1]
end
end
end Go.Proofs.YtjolbidcficdhaaDoor
