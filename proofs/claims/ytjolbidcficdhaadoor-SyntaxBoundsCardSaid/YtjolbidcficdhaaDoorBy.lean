/- The parser's types without a tag: the list of nodes. -/
import Derived.Test.YtjolbidcficdhaaDoorBn
set_option linter.all false
set_option maxRecDepth 100000
namespace Go.Proofs.YtjolbidcficdhaaDoor
open Go Go.Og
noncomputable section
def begW (t : Tk) : Bool := BS.beq (ofN t.2.1) (BS.mk 4 1280070990) || BS.beq (ofN t.2.1) (BS.mk 7 23157120498421321) || BS.beq (ofN t.2.1) (BS.mk 5 361940403023) || BS.beq (ofN t.2.1) (BS.mk 8 4990918871747741011)
def SpBegW (F : List V → H → Ans) : Prop := ∀ (σ : H) (t : Tk), Tidy σ → begW t = true → t.1 = 5 → ∃ σ', F [tokV t] σ = some (.bool true, σ') ∧ Fr Nowhere σ σ'
section
variable {D : Den} {W : DrawFn} {N : Nat}
theorem begw_F : SpBegW (F52 [] D W N) := by
  intro σ t ht hs hk
  obtain ⟨σ1, e1, f1, a1, _⟩ := mk_new ht [.int .i64 (Int.ofNat t.1), .str (ofN t.2.1), .int .i64 (Int.ofNat t.2.2)]
  refine ⟨σ1, ?_, f1⟩
  have l0 : ∀ κ : V → Ans, ldK [] σ1 σ.next 0 κ = κ (.int .i64 (Int.ofNat t.1)) := fun κ => ldK_at a1 rfl
  have l1 : ∀ κ : V → Ans, ldK [] σ1 σ.next 1 κ = κ (.str (ofN t.2.1)) := fun κ => ldK_at a1 rfl
  unfold begW at hs
  show T52_0 [] D W (J52_1 [] D W N) (J52_2 [] D W N) (Int.ofNat t.1) (ofN t.2.1) (Int.ofNat t.2.2) σ = _
  unfold T52_0
  show chk true _ = _
  show ldK [] (newB σ (.cells [.int .i64 (Int.ofNat t.1), .str (ofN t.2.1), .int .i64 (Int.ofNat t.2.2)])) σ.next 0 _ = _
  simp only [V.cells, e1, l0, l1, rtInt_int, rtStr_str]
  rw [hk, show eqF (Int.ofNat 5) (Int.ofNat 1) = false from rfl, show eqF (Int.ofNat 5) (Int.ofNat 6) = false from rfl, show eqF (Int.ofNat 5) (Int.ofNat 5) = true from rfl]
  simp only [condK_true, condK_false]
  generalize BS.beq (ofN t.2.1) (BS.mk 4 1280070990) = b1 at *
  generalize BS.beq (ofN t.2.1) (BS.mk 7 23157120498421321) = b2 at *
  generalize BS.beq (ofN t.2.1) (BS.mk 5 361940403023) = b3 at *
  generalize BS.beq (ofN t.2.1) (BS.mk 8 4990918871747741011) = b4 at *
  generalize BS.beq (ofN t.2.1) (BS.mk 7 22026814072246082) = c1
  generalize BS.beq (ofN t.2.1) (BS.mk 10 488440487847103610377301) = c2
  generalize BS.beq (ofN t.2.1) (BS.mk 10 322399817400452109389381) = c3
  cases c1 with
  | true => rfl
  | false =>
    cases b1 with
    | true => rfl
    | false =>
      cases c2 with
      | true => rfl
      | false =>
        cases b2 with
        | true => rfl
        | false =>
          cases b3 with
          | true => rfl
          | false =>
            cases c3 with
            | true => rfl
            | false =>
              cases b4 with
              | true => rfl
              | false => cases hs
end

/-- A node, where the list of nodes ends with its place. -/
def SpNt (ts : List Tk) (j j' k n : Nat) (l l2 L : List V) (d : Nat) (F : List V → H → Ans) : Prop := ∀ (σ : H) (p tb : Nat) (v0 v1 v2 v3 : V) (nb : Nat), Px σ p tb ts j (rest7 v0 v1 v2 v3 (.sl nb 0 (k + 1) (.op 16)) 0 0) → Atc σ nb (l ++ zero16) → nb ≠ p → nb ≠ tb →
  ∃ σ' nb', F [.ptr p 0, .int .i64 (Int.ofNat d)] σ = some (.tup [.agg L, .bool true], σ') ∧ Px σ' p tb ts j' (rest7 v0 v1 v2 v3 (.sl nb' 0 n (.op 16)) 0 0) ∧ Atc σ' nb' (l ++ zero16 ++ l2) ∧ nb' ≠ p ∧ nb' ≠ tb ∧ (nb' = nb ∨ σ.next ≤ nb') ∧ Fr (fun c => c = p ∨ c = nb) σ σ'
def SpTy (ts : List Tk) (j j' k n : Nat) (l l' : List V) (d : Nat) (F : List V → H → Ans) : Prop := ∀ (σ : H) (p tb : Nat) (v0 v1 v2 v3 v4 : V), Px σ p tb ts j (rest7 v0 v1 v2 v3 v4 0 0) → Sl σ 16 k v4 l → (∀ b, Names v4 b → b ≠ p ∧ b ≠ tb) →
  ∃ σ' nb, F [.ptr p 0, .int .i64 (Int.ofNat d)] σ = some (.tup [.int .i64 (Int.ofNat k), .bool true], σ') ∧ Px σ' p tb ts j' (rest7 v0 v1 v2 v3 (.sl nb 0 n (.op 16)) 0 0) ∧ Atc σ' nb l' ∧ nb ≠ p ∧ nb ≠ tb ∧ σ.next ≤ nb ∧ Fr (fun c => c = p ∨ Names v4 c) σ σ'
section
variable {D : Den} {W : DrawFn} {N : Nat} {ts : List Tk} {j j' : Nat} {t t1 : Tk}
theorem nt_of {k d : Nat} {l L : List V} {F : List V → H → Ans} (h : SpNd ts j j' L Same F) : SpNt ts j j' k (k + 1) l [] L d F := by
  intro σ p tb v0 v1 v2 v3 nb x a n1 n2
  obtain ⟨σ6, σ7, σ8, m', b4, e, x8, f8, q, _⟩ := h σ p tb (Int.ofNat d) _ x
  have q' : m' = _ := q
  rw [q'] at x8
  exact ⟨σ8, nb, e, x8, by rw [List.append_nil]; exact f8.at_ a x.tidy n1, n1, n2, .inl rfl, f8.mono (fun _ _ h => .inl h)⟩
theorem ty_F (hP : SpSPeek (D 23)) (hB : SpBegW (D 52)) {k n d : Nat} {l l2 : List V} {kk on : Nat} {has hl hh mo : Bool} {u v : Int} (hNt : SpNt ts j j' k n l l2 (nd kk has hl hh mo u v on) d (D 53)) (ht : ts[j]? = some t) (hs : begW t = true) (hk : t.1 = 5)
    (hd : d ≤ 16) (hkk : k < 200) (hn : k < n) (hc : (Nat.beq (V.agg (nd kk has hl hh mo u v on)).cells.length 16 && Nat.ble (Nat.add (Nat.add 0 (Nat.mul k 16)) 16) (l ++ zero16 ++ l2).length && allOne (V.agg (nd kk has hl hh mo u v on)).cells) = true)
    (hsp : spl (l ++ zero16 ++ l2) (Nat.add 0 (Nat.mul k 16)) (V.agg (nd kk has hl hh mo u v on)).cells = l ++ nd kk has hl hh mo u v on ++ l2) (hg : growable (k + 1) 144 = true) :
    SpTy ts j j' k n l (l ++ nd kk has hl hh mo u v on ++ l2) d (F44 [] D W N) := by
  intro σ p tb v0 v1 v2 v3 v4 h hsl hnm
  have lp := h.lt; have ltb := h.tlt
  have pk := hP σ p tb j ts _ t h ht
  obtain ⟨σ1, g1, f1⟩ := hB σ t h.tidy hs hk
  have x1 := h.fr f1 (fun h => h) (fun h => h)
  have s1 := hsl.fr f1 h.tidy (fun _ _ h => h)
  obtain ⟨σ2, e2, f2, a2, n2⟩ := mk_new x1.tidy zero16
  have x2 := x1.fr f2 (fun h => h) (fun h => h)
  have s2 := s1.fr f2 x1.tidy (fun _ _ h => h)
  have l6 : ∀ κ : V → Ans, ldK [] σ1 p (Nat.add (Nat.add 0 2) 4) κ = κ v4 := fun κ => ldK_at x1.at_ rfl
  obtain ⟨σ3, app, a3, n3, f3⟩ := app_one (E := []) (bytes := 144) s2 x2.tidy a2 rfl rfl hg
  have x3 := x2.fr f3 (fun hx => (hnm p hx).1 rfl) (fun hx => (hnm tb hx).2 rfl)
  obtain ⟨σ4, e4, f4, a4⟩ := mk_set x3.tidy x3.at_ (pcells tb ts.length j (rest7 v0 v1 v2 v3 (.sl σ2.next 0 (k + 1) (.op 16)) 0 0))
  have le2 : σ.next ≤ σ1.next := f1.le
  have x4 : Px σ4 p tb ts j (rest7 v0 v1 v2 v3 (.sl σ2.next 0 (k + 1) (.op 16)) 0 0) := ⟨a4, f4.at_ x3.tok x3.tidy x3.ne, x3.ne, f4.tidy, x3.big, x3.last⟩
  have hne : σ2.next ≠ p := by omega
  have hnt : σ2.next ≠ tb := by omega
  have a34 : Atc σ4 σ2.next (l ++ zero16) := f4.at_ a3 x3.tidy (by omega)
  obtain ⟨σ5, nb, g5, x5, a5, m1, m2, m3, f5⟩ := hNt σ4 p tb v0 v1 v2 v3 _ x4 a34 hne hnt
  have le4 : σ3.next ≤ σ4.next := f4.le
  have q15 : Fr (fun c => c = p ∨ Names v4 c) σ σ5 := ((((f1.mono (T := fun c => c = p ∨ Names v4 c) (fun _ _ h => h.elim)).trans f2 (fun _ _ h => h.elim)).trans f3 (fun _ _ h => .inr h)).trans f4 (fun _ _ h => .inl h)).trans f5 (fun c hc h => by
    rcases h with h | h
    · exact .inl h
    · omega)
  obtain ⟨σ6, e6, f6, a6⟩ := mk_set x5.tidy a5 (l ++ nd kk has hl hh mo u v on ++ l2)
  have x6 := x5.fr f6 (fun h => m1 h.symm) (fun h => m2 h.symm)
  have l6' : ∀ κ : V → Ans, ldK [] σ5 p (Nat.add (Nat.add 0 2) 4) κ = κ (.sl nb 0 n (.op 16)) := fun κ => ldK_at x5.at_ rfl
  refine ⟨σ6, nb, ?_, x6, a6, m1, m2, by omega, q15.trans f6 (fun c hc h => by have h : c = nb := h; omega)⟩
  show T44_0 [] D W p 0 (Int.ofNat d) σ = _
  unfold T44_0
  rw [pk]
  simp only [callK_some_, tokV, rtAgg_agg, rtCons_cons, rtInt_int, rtStr_str, rtNil_nil]
  show callK (D 52 [tokV t] σ) _ = _
  rw [g1]
  simp only [callK_some_, rtBool_bool, Bool.not_true, condK_false, joinB_]
  rw [show ltF (Int.ofNat 16) (Int.ofNat d) = false by rw [ltF_nat]; simp; omega, condK_false]
  have sl0 : ∀ κ : Nat → Ans, slenK v4 κ = κ k := fun _ => s1.slen
  simp only [l6, sl0]
  rw [show leF (Int.ofNat 300) (Int.ofNat k) = false by rw [leF_nat]; simp; omega, condK_false]
  show appK [] 16 144 v4 (.sl σ1.next 0 1 (.ex 1)) (newB σ1 (.cells zero16)) _ = _
  rw [e2, app, rtOne_sl, stK_at x3.at_ rfl]
  show callK (D 53 [.ptr p 0, .int .i64 (Int.ofNat d)] (setF σ3 p (.cells (pcells tb ts.length j (rest7 v0 v1 v2 v3 (.sl σ2.next 0 (k + 1) (.op 16)) 0 0))))) _ = _
  rw [e4, g5]
  simp only [callK_some_, rtTup_tup, rtCons_cons, rtAgg_agg]
  simp only [nd, rtCons_cons, rtInt_int, rtStr_str, rtBool_bool, rtNil_nil]
  have ok : ∀ a : Ans, chk (allOne (nd kk has hl hh mo u v on)) a = a := fun _ => rfl
  simp only [nd] at ok
  simp only [ok, Bool.not_true, condK_false, l6', iaddrSK_lt hn]
  show stK 16 nb (Nat.add 0 (Nat.mul k 16)) (.agg (nd kk has hl hh mo u v on)) σ5 _ = _
  rw [stK_at a5 hc, hsp, e6]
end
end
end Go.Proofs.YtjolbidcficdhaaDoor
