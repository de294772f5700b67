/- The parser on a module of one type, which is NULL behind a tag: the walk, up to a type. -/
import Derived.Test.YtjolbidcficdhaaDoorPx
set_option linter.all false
set_option maxRecDepth 100000
namespace Go.Proofs.YtjolbidcficdhaaDoor
open Go Go.Og
noncomputable section
theorem mk_new {σ : H} (ht : Tidy σ) (z : List V) : ∃ σ1, newB σ (.cells z) = σ1 ∧ Fr Nowhere σ σ1 ∧ Atc σ1 σ.next z ∧ σ1.next = σ.next + 1 := ⟨_, rfl, Fr.new ht _, Atc_newB _, rfl⟩
theorem mk_set {σ : H} {b : Nat} {l : List V} (ht : Tidy σ) (h : Atc σ b l) (z : List V) : ∃ σ1, setF σ b (.cells z) = σ1 ∧ Fr (fun k => k = b) σ σ1 ∧ Atc σ1 b z := ⟨_, rfl, Fr.set ht (h.lt ht) _, Atc_setF _⟩
def rest7 (v0 v1 v2 v3 v4 : V) (a e : Nat) : List V := [v0, v1, v2, v3, v4, .int .i64 (Int.ofNat a), .int .i64 (Int.ofNat e)]
def SpFail (F : List V → H → Ans) : Prop := ∀ (σ : H) (p tb j : Nat) (ts : List Tk) (a e : Nat) (v0 v1 v2 v3 v4 : V), Px σ p tb ts j (rest7 v0 v1 v2 v3 v4 0 0) →
  ∃ σ', F [.ptr p 0, .int .i64 (Int.ofNat a), .int .i64 (Int.ofNat e)] σ = some (.bool false, σ') ∧ Px σ' p tb ts j (rest7 v0 v1 v2 v3 v4 a e) ∧ Fr (fun k => k = p) σ σ'
def SpBegins (F : List V → H → Ans) : Prop := ∀ (σ : H) (t : Tk), Tidy σ → stB t (BS.mk 1 91) = true → t.1 = 6 → ∃ σ', F [tokV t] σ = some (.bool true, σ') ∧ Fr Nowhere σ σ'
section
variable {D : Den} {W : DrawFn} {N : Nat}
theorem fail_F : SpFail (F41 [] D W N) := by
  intro σ p tb j ts a e v0 v1 v2 v3 v4 h
  have l8 : ∀ κ : V → Ans, ldK [] σ p (Nat.add 0 8) κ = κ (.int .i64 (Int.ofNat 0)) := fun κ => ldK_at h.at_ rfl
  obtain ⟨σ1, e1, f1, a1⟩ := mk_set h.tidy h.at_ (pcells tb ts.length j (rest7 v0 v1 v2 v3 v4 a 0))
  have h1 : Px σ1 p tb ts j (rest7 v0 v1 v2 v3 v4 a 0) := ⟨a1, f1.at_ h.tok h.tidy h.ne, h.ne, f1.tidy, h.big, h.last⟩
  obtain ⟨σ2, e2, f2, a2⟩ := mk_set h1.tidy h1.at_ (pcells tb ts.length j (rest7 v0 v1 v2 v3 v4 a e))
  have h2 : Px σ2 p tb ts j (rest7 v0 v1 v2 v3 v4 a e) := ⟨a2, f2.at_ h1.tok h1.tidy h1.ne, h1.ne, f2.tidy, h1.big, h1.last⟩
  refine ⟨σ2, ?_, h2, f1.trans f2 (fun _ _ h => h)⟩
  show T41_0 [] D W (J41_1 [] D W N) p 0 (Int.ofNat a) (Int.ofNat e) σ = _
  simp only [T41_0, l8, rtInt_int]
  show condK true _ _ = _
  rw [condK_true, stK_at h.at_ rfl]
  show stK 1 p (Nat.add 0 8) _ (setF σ p (.cells (pcells tb ts.length j (rest7 v0 v1 v2 v3 v4 a 0)))) _ = _
  rw [e1, stK_at h1.at_ rfl]
  show J41_1 [] D W N (setF σ1 p (.cells (pcells tb ts.length j (rest7 v0 v1 v2 v3 v4 a e)))) = _
  rw [e2]
  rfl
theorem begins_F : SpBegins (F52 [] D W N) := by
  intro σ t ht hs hk
  obtain ⟨σ1, e1, f1, a1, _⟩ := mk_new ht [.int .i64 (Int.ofNat t.1), .str (ofN t.2.1), .int .i64 (Int.ofNat t.2.2)]
  refine ⟨σ1, ?_, f1⟩
  have l0 : ∀ κ : V → Ans, ldK [] σ1 σ.next 0 κ = κ (.int .i64 (Int.ofNat t.1)) := fun κ => ldK_at a1 rfl
  have l1 : ∀ κ : V → Ans, ldK [] σ1 σ.next 1 κ = κ (.str (ofN t.2.1)) := fun κ => ldK_at a1 rfl
  have hb : BS.beq (ofN t.2.1) (BS.mk 1 91) = true := by
    unfold stB at hs
    simp only [Bool.and_eq_true] at hs
    exact hs.2
  show T52_0 [] D W (J52_1 [] D W N) (J52_2 [] D W N) (Int.ofNat t.1) (ofN t.2.1) (Int.ofNat t.2.2) σ = _
  unfold T52_0
  show chk true _ = _
  show ldK [] (newB σ (.cells [.int .i64 (Int.ofNat t.1), .str (ofN t.2.1), .int .i64 (Int.ofNat t.2.2)])) σ.next 0 _ = _
  simp only [V.cells, e1, l0, l1, rtInt_int, rtStr_str]
  simp only [hk, hb]
  rfl

/-! ### the tag -/
/-- What a tag ahead of a type comes to: where it stands behind it, the mark, whether it is right, the error. -/
structure MarkR where
  ok : Bool
  n : Int
  mode : Nat
  j' : Nat
  a : Nat
  e : Nat
def MarkR.cells (r : MarkR) : List V := match r.ok with
  | true => [.bool true, .int .i64 r.n, .int .i64 (Int.ofNat r.mode)]
  | false => [.bool false, .int .i64 (Int.ofNat 0), .int .i64 (Int.ofNat 0)]
def SpMark (ts : List Tk) (j : Nat) (r : MarkR) (F : List V → H → Ans) : Prop := ∀ (σ : H) (p tb : Nat) (v0 v1 v2 v3 v4 : V), Px σ p tb ts j (rest7 v0 v1 v2 v3 v4 0 0) →
  ∃ σ', F [.ptr p 0] σ = some (.tup [.agg r.cells, .bool r.ok], σ') ∧ Px σ' p tb ts r.j' (rest7 v0 v1 v2 v3 v4 r.a r.e) ∧ Fr (fun k => k = p) σ σ'
theorem mark_bad (hI : SpIs (D 43)) (hN : SpPNum (D 73)) (hF : SpFail (D 41)) {ts : List Tk} {j a : Nat} {t0 : Tk} {w : List Nat} {v : Int}
    (h0 : ts[j]? = some t0) (hs0 : stB t0 (BS.mk 1 91) = true) (h1 : ts[j + 1]? = some (3, w, a)) (hw : NumOk w v) (hv : v < 0 ∨ 268435456 < v) :
    SpMark ts j ⟨false, v, 0, j + 2, a, 12⟩ (F62 [] D W N) := by
  intro σ p tb v0 v1 v2 v3 v4 h
  have i0 := hI σ p tb j ts _ t0 (BS.mk 1 91) h h0
  rw [hs0] at i0
  simp only [] at i0
  have x1 := h.set (j + 1) (rest7 v0 v1 v2 v3 v4 0 0)
  have f1 := h.setFr (j + 1) (rest7 v0 v1 v2 v3 v4 0 0)
  obtain ⟨σ2, g2, x2, f2⟩ := hN _ p tb (j + 1) ts _ w a v x1 h1 hw
  obtain ⟨σ3, g3, x3, f3⟩ := hF σ2 p tb (j + 2) ts a 12 v0 v1 v2 v3 v4 x2
  refine ⟨σ3, ?_, x3, (f1.trans f2 (fun _ _ h => h)).trans f3 (fun _ _ h => h)⟩
  show T62_0 [] D W (J62_1 [] D W N) p 0 σ = _
  simp only [T62_0, i0, callK_some_, rtBool_bool, Bool.not_true, condK_false, g2, rtTup_tup, rtCons_cons, rtInt_int, tokV, rtAgg_agg, rtStr_str, rtNil_nil, joinB_]
  have g3' : D 41 [.ptr p 0, .int .i64 (Int.ofNat a), .int .i64 (Int.ofNat 12)] σ2 = some (.bool false, σ3) := g3
  rcases hv with hv | hv
  · rw [show ltF v (Int.ofNat 0) = true by rw [ltF_eq]; exact decide_eq_true hv]
    simp only [condK_true, g3', callK_some_, rtBool_bool]
    rfl
  · rw [show ltF v (Int.ofNat 0) = false by rw [ltF_eq]; exact decide_eq_false (by simp; omega), show ltF (Int.ofNat 268435456) v = true by rw [ltF_eq]; exact decide_eq_true hv]
    simp only [condK_true, condK_false, g3', callK_some_, rtBool_bool]
    rfl
theorem mark_ok (hI : SpIs (D 43)) (hN : SpPNum (D 73)) (hWt : SpWant (D 21)) {ts : List Tk} {j a : Nat} {t0 t2 t3 : Tk} {w : List Nat} {v : Int}
    (h0 : ts[j]? = some t0) (hs0 : stB t0 (BS.mk 1 91) = true) (h1 : ts[j + 1]? = some (3, w, a)) (hw : NumOk w v) (hv0 : 0 ≤ v) (hv1 : v ≤ 268435456)
    (h2 : ts[j + 2]? = some t2) (hs2 : stB t2 (BS.mk 1 93) = true) (h3 : ts[j + 3]? = some t3) {mode j' : Nat}
    (hm : (mode = 1 ∧ j' = j + 4 ∧ stB t3 (BS.mk 8 6073459554577832005) = true) ∨ (stB t3 (BS.mk 8 6073459554577832005) = false ∧
      ((mode = 2 ∧ j' = j + 4 ∧ stB t3 (BS.mk 8 6073459554577829193) = true) ∨ (mode = 0 ∧ j' = j + 3 ∧ stB t3 (BS.mk 8 6073459554577829193) = false)))) :
    SpMark ts j ⟨true, v, mode, j', 0, 0⟩ (F62 [] D W N) := by
  intro σ p tb v0 v1 v2 v3 v4 h
  have i0 := hI σ p tb j ts _ t0 (BS.mk 1 91) h h0
  rw [hs0] at i0
  simp only [] at i0
  have x1 := h.set (j + 1) (rest7 v0 v1 v2 v3 v4 0 0)
  have f1 := h.setFr (j + 1) (rest7 v0 v1 v2 v3 v4 0 0)
  obtain ⟨σ2, g2, x2, f2⟩ := hN _ p tb (j + 1) ts _ w a v x1 h1 hw
  obtain ⟨σ3, e3, f3, a3, n3⟩ := mk_new x2.tidy [V.str (BS.mk 1 93)]
  have x3 := x2.fr f3 (fun h => h) (fun h => h)
  have lp := x2.lt
  obtain ⟨σ4, g4, x4, f4⟩ := hWt σ3 p tb (j + 2) σ2.next ts _ [BS.mk 1 93] x3 a3 (by omega) ⟨⟨t2, h2, hs2⟩, trivial⟩ (by simp)
  have i1 := hI σ4 p tb (j + 3) ts _ t3 (BS.mk 8 6073459554577832005) x4 h3
  have i2 := hI σ4 p tb (j + 3) ts _ t3 (BS.mk 8 6073459554577829193) x4 h3
  have fr : Fr (fun k => k = p) σ σ4 := (((f1.trans f2 (fun _ _ h => h)).trans f3 (fun _ _ h => h.elim))).trans f4 (fun _ _ h => h)
  have x5 := x4.set (j + 4) (rest7 v0 v1 v2 v3 v4 0 0)
  have f5 := x4.setFr (j + 4) (rest7 v0 v1 v2 v3 v4 0 0)
  have q0 : ltF v (Int.ofNat 0) = false := by rw [ltF_eq]; exact decide_eq_false (by simp; omega)
  have q1 : ltF (Int.ofNat 268435456) v = false := by rw [ltF_eq]; exact decide_eq_false (by simp only [Int.ofNat_eq_natCast]; omega)
  have hu : ∀ σ', T62_0 [] D W (J62_1 [] D W N) p 0 σ = σ' ↔ (callK (D 43 [.ptr p 0, .str (BS.mk 8 6073459554577832005)] σ4) fun u35 s36 =>
      rtBool u35 fun x37 => condK x37 (J62_1 [] D W N false (Int.ofNat 0) (Int.ofNat 0) true v (Int.ofNat 1) s36) (
      callK (D 43 [.ptr p 0, .str (BS.mk 8 6073459554577829193)] s36) fun u38 s39 => rtBool u38 fun x40 =>
      condK x40 (J62_1 [] D W N false (Int.ofNat 0) (Int.ofNat 0) true v (Int.ofNat 2) s39) (J62_1 [] D W N false (Int.ofNat 0) (Int.ofNat 0) true v (Int.ofNat 0) s39))) = σ' := fun σ' => by
    simp only [T62_0, i0, callK_some_, rtBool_bool, Bool.not_true, condK_false, g2, rtTup_tup, rtCons_cons, rtInt_int, tokV, rtAgg_agg, rtStr_str, rtNil_nil, joinB_, q0, q1]
    rw [e3]
    have g4' : D 21 [.ptr p 0, .sl (H.next σ2) 0 1 (.ex 1)] σ3 = some (.bool true, σ4) := g4
    simp only [g4', callK_some_, rtBool_bool, Bool.not_true, condK_false]
  rcases hm with ⟨rfl, rfl, hx⟩ | ⟨hx, ⟨rfl, rfl, hy⟩ | ⟨rfl, rfl, hy⟩⟩
  · rw [hx] at i1
    refine ⟨_, (hu _).2 ?_, x5, fr.trans f5 (fun _ _ h => h)⟩
    simp only [i1, callK_some_, rtBool_bool, condK_true]
    rfl
  · rw [hx] at i1; rw [hy] at i2
    refine ⟨_, (hu _).2 ?_, x5, fr.trans f5 (fun _ _ h => h)⟩
    simp only [] at i1 i2
    simp only [i1, i2, callK_some_, rtBool_bool, condK_true, condK_false]
    rfl
  · rw [hx] at i1; rw [hy] at i2
    refine ⟨_, (hu _).2 ?_, x4, fr⟩
    simp only [] at i1 i2
    simp only [i1, i2, callK_some_, rtBool_bool, condK_true, condK_false]
    rfl

/-! ### the type -/
def zero16 : List V := [.int .i64 (Int.ofNat 0), .str ⟨0, 0⟩, .bool false, .int .i64 (Int.ofNat 0), .int .i64 (Int.ofNat 0), .bool false, .bool false, .bool false, .bool false, .int .i64 (Int.ofNat 0), .int .i64 (Int.ofNat 0), .nils, .nils, .int .i64 (Int.ofNat 0), .bool false, .int .i64 (Int.ofNat 0)]
def null16 (k : Nat) (n : Int) (mode : Nat) : List V := [.int .i64 (Int.ofNat k), .str ⟨0, 0⟩, .bool true, .int .i64 n, .int .i64 (Int.ofNat mode), .bool false, .bool false, .bool false, .bool false, .int .i64 (Int.ofNat 0), .int .i64 (Int.ofNat 0), .nils, .nils, .int .i64 (Int.ofNat 0), .bool false, .int .i64 (Int.ofNat 0)]
def MarkR.node (r : MarkR) : List V := match r.ok with
  | true => null16 4 r.n r.mode
  | false => zero16
def MarkR.j2 (r : MarkR) : Nat := match r.ok with
  | true => r.j' + 1
  | false => r.j'
def SpNode (ts : List Tk) (j : Nat) (r : MarkR) (F : List V → H → Ans) : Prop := ∀ (σ : H) (p tb : Nat) (d : Int) (v0 v1 v2 v3 v4 : V), Px σ p tb ts j (rest7 v0 v1 v2 v3 v4 0 0) →
  ∃ σ', F [.ptr p 0, .int .i64 d] σ = some (.tup [.agg r.node, .bool r.ok], σ') ∧ Px σ' p tb ts r.j2 (rest7 v0 v1 v2 v3 v4 r.a r.e) ∧ Fr (fun k => k = p) σ σ'
theorem node_F (hI : SpIs (D 43)) (hP : SpSPeek (D 23)) {ts : List Tk} {j : Nat} {r : MarkR} (hM : SpMark ts j r (D 62))
    (hr : r.ok = true → r.a = 0 ∧ r.e = 0 ∧ ∃ t, ts[r.j']? = some t ∧ t.1 = 5 ∧ stB t (BS.mk 7 22026814072246082) = false ∧ stB t (BS.mk 4 1280070990) = true) :
    SpNode ts j r (F53 [] D W N) := by
  intro σ p tb d v0 v1 v2 v3 v4 h
  obtain ⟨σ1, e1, f1, a1, n1⟩ := mk_new h.tidy zero16
  have x1 := h.fr f1 (fun h => h) (fun h => h)
  have lp := h.lt; have ltb := h.tlt
  obtain ⟨σ2, g2, x2, f2⟩ := hM σ1 p tb v0 v1 v2 v3 v4 x1
  have a2 := f2.at_ a1 x1.tidy (by omega)
  have le2 := f2.le
  show ∃ σ', T53_0 [] D W (J53_1 [] D W N) p 0 d σ = _ ∧ _
  have e0 : T53_0 [] D W (J53_1 [] D W N) p 0 d σ = T53_0 [] D W (J53_1 [] D W N) p 0 d σ := rfl
  cases hok : r.ok with
  | false =>
    rw [hok] at g2
    obtain ⟨σ3, e3, f3, a3⟩ := mk_set x2.tidy a2 zero16
    have x3 := x2.fr f3 (by omega) (by omega)
    refine ⟨σ3, ?_, ?_, ?_⟩
    · have hc : r.cells = [.bool false, .int .i64 (Int.ofNat 0), .int .i64 (Int.ofNat 0)] := by unfold MarkR.cells; rw [hok]
      have hn : r.node = zero16 := by unfold MarkR.node; rw [hok]
      rw [hc] at g2
      rw [hn]
      unfold T53_0
      show callK (D 62 [.ptr p 0] (newB σ (.cells zero16))) _ = _
      rw [e1, g2]
      simp only [callK_some_, rtTup_tup, rtCons_cons, rtAgg_agg, rtBool_bool, rtInt_int, rtNil_nil, Bool.not_false, condK_true]
      rw [stK_at a2 rfl]
      show ldnK [] (setF σ2 σ.next (.cells zero16)) σ.next 0 16 (fun u => some (V.tup [V.agg u, V.bool false], setF σ2 σ.next (.cells zero16))) = _
      rw [e3, ldnK_at a3 (by show 0 + 16 ≤ 16; omega)]
      rfl
    · have hj : r.j2 = r.j' := by unfold MarkR.j2; rw [hok]
      rw [hj]; exact x3
    · have q1 := (f1.mono (T := fun k => k = p) (fun _ _ h => h.elim)).trans f2 (fun _ _ h => h)
      exact q1.trans f3 (fun c hc h => by have h : c = σ.next := h; omega)
  | true =>
    rw [hok] at g2
    obtain ⟨ha0, he0, t, ht, hk, hb, hn⟩ := hr hok
    rw [ha0, he0] at x2
    obtain ⟨σ3, e3, f3, a3, n3⟩ := mk_new x2.tidy zero16
    have x3 := x2.fr f3 (fun h => h) (fun h => h)
    have a23 := f3.at_ a2 x2.tidy (fun h => h)
    obtain ⟨σ4, e4, f4, a4⟩ := mk_set x3.tidy a3 (null16 0 r.n r.mode)
    have x4 := x3.fr f4 (by omega) (by omega)
    have a24 := f4.at_ a23 x3.tidy (by omega)
    have le4 : σ3.next ≤ σ4.next := f4.le
    obtain ⟨σ5, e5, f5, a5, n5⟩ := mk_new x4.tidy [.int .i64 (Int.ofNat 0), .str ⟨0, 0⟩, .int .i64 (Int.ofNat 0)]
    have x5 := x4.fr f5 (fun h => h) (fun h => h)
    have a25 := f5.at_ a24 x4.tidy (fun h => h)
    have a45 := f5.at_ a4 x4.tidy (fun h => h)
    obtain ⟨σ6, e6, f6, a6⟩ := mk_set x5.tidy a5 [.int .i64 (Int.ofNat t.1), .str (ofN t.2.1), .int .i64 (Int.ofNat t.2.2)]
    have x6 := x5.fr f6 (by omega) (by omega)
    have a26 := f6.at_ a25 x5.tidy (by omega)
    have a46 := f6.at_ a45 x5.tidy (by omega)
    have pk := hP σ4 p tb r.j' ts _ t x4 ht
    have i1 := hI σ6 p tb r.j' ts _ t (BS.mk 7 22026814072246082) x6 ht
    rw [hb] at i1
    have i2 := hI σ6 p tb r.j' ts _ t (BS.mk 4 1280070990) x6 ht
    rw [hn] at i2
    simp only [] at i1 i2
    have f7 := x6.setFr (r.j' + 1) (rest7 v0 v1 v2 v3 v4 0 0)
    have x7 := x6.set (r.j' + 1) (rest7 v0 v1 v2 v3 v4 0 0)
    have le6 : σ5.next ≤ σ6.next := f6.le
    have a27 := f7.at_ a26 x6.tidy (by omega)
    have a47 := f7.at_ a46 x6.tidy (by omega)
    generalize pset σ6 p tb ts (r.j' + 1) (rest7 v0 v1 v2 v3 v4 0 0) = σ7 at *
    obtain ⟨σ8, e8, f8, a8⟩ := mk_set x7.tidy a47 (null16 4 r.n r.mode)
    have x8 := x7.fr f8 (by omega) (by omega)
    have a28 := f8.at_ a27 x7.tidy (by omega)
    obtain ⟨σ9, e9, f9, a9⟩ := mk_set x8.tidy a28 (null16 4 r.n r.mode)
    have x9 := x8.fr f9 (by omega) (by omega)
    have hc : r.cells = [.bool true, .int .i64 r.n, .int .i64 (Int.ofNat r.mode)] := by unfold MarkR.cells; rw [hok]
    have hnd : r.node = null16 4 r.n r.mode := by unfold MarkR.node; rw [hok]
    have hj : r.j2 = r.j' + 1 := by unfold MarkR.j2; rw [hok]
    have hk1 : eqF (Int.ofNat t.1) (Int.ofNat 1) = false := by rw [eqF_nat]; exact decide_eq_false (by omega)
    refine ⟨σ9, ?_, by rw [hj, ha0, he0]; exact x9, ?_⟩
    · rw [hc] at g2
      rw [hnd]
      unfold T53_0
      show callK (D 62 [.ptr p 0] (newB σ (.cells zero16))) _ = _
      rw [e1, g2]
      simp only [callK_some_, rtTup_tup, rtCons_cons, rtAgg_agg, rtBool_bool, rtInt_int, rtNil_nil, Bool.not_true, condK_false]
      show stK 16 σ2.next 0 _ (newB σ2 (.cells zero16)) _ = _
      rw [e3, stK_at a3 rfl]
      show callK (D 23 [.ptr p 0] (setF σ3 σ2.next (.cells (null16 0 r.n r.mode)))) _ = _
      rw [e4, pk]
      simp only [callK_some_, tokV, rtAgg_agg, rtCons_cons, rtInt_int, rtStr_str, rtNil_nil]
      show stK 3 σ4.next 0 _ (newB σ4 _) _ = _
      rw [e5, stK_at a5 rfl]
      show ldK [] (setF σ5 σ4.next (.cells [.int .i64 (Int.ofNat t.1), .str (ofN t.2.1), .int .i64 (Int.ofNat t.2.2)])) σ4.next 0 _ = _
      rw [e6, ldK_at a6 rfl]
      simp only [rtInt_int, hk1, condK_false]
      show callK (D 43 [.ptr p 0, .str (BS.mk 7 22026814072246082)] (setF σ5 σ4.next (.cells [.int .i64 (Int.ofNat t.1), .str (ofN t.2.1), .int .i64 (Int.ofNat t.2.2)]))) _ = _
      rw [e6, i1]
      simp only [callK_some_, rtBool_bool, condK_false, i2, condK_true]
      rw [stK_at a47 rfl]
      show J53_1 [] D W N σ.next 0 true σ2.next 0 (setF σ7 σ2.next (.cells (null16 4 r.n r.mode))) = _
      rw [e8]
      show T53_1 [] D W σ.next 0 true σ2.next 0 σ8 = _
      unfold T53_1
      rw [ldnK_at a8 (by show 0 + 16 ≤ 16; omega), show List.take 16 (List.drop 0 (null16 4 r.n r.mode)) = null16 4 r.n r.mode from rfl]
      unfold null16
      simp only [rtCons_cons, rtInt_int, rtStr_str, rtBool_bool, rtNil_nil]
      rw [stK_at a28 rfl]
      show ldnK [] (setF σ8 σ.next (.cells (null16 4 r.n r.mode))) σ.next 0 16 (fun u => some (V.tup [V.agg u, V.bool true], setF σ8 σ.next (.cells (null16 4 r.n r.mode)))) = _
      rw [e9, ldnK_at a9 (by show 0 + 16 ≤ 16; omega)]
      rfl
    · have q1 := (f1.mono (T := fun k => k = p) (fun _ _ h => h.elim)).trans f2 (fun _ _ h => h)
      have q2 := q1.trans f3 (fun _ _ h => h.elim)
      have q3 := q2.trans f4 (fun c hc h => by have h : c = σ2.next := h; omega)
      have q4 := q3.trans f5 (fun _ _ h => h.elim)
      have q5 := q4.trans f6 (fun c hc h => by have h : c = σ4.next := h; omega)
      have q6 := q5.trans f7 (fun _ _ h => h)
      have q7 := q6.trans f8 (fun c hc h => by have h : c = σ2.next := h; omega)
      exact q7.trans f9 (fun c hc h => by have h : c = σ.next := h; omega)
end
end
end Go.Proofs.YtjolbidcficdhaaDoor
