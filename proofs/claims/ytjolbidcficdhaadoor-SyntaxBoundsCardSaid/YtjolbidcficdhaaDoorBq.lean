/- The parser's lists without a tag. -/
import Derived.Test.YtjolbidcficdhaaDoorBy
set_option linter.all false
set_option maxRecDepth 100000
namespace Go.Proofs.YtjolbidcficdhaaDoor
open Go Go.Og
noncomputable section
section
variable {D : Den} {W : DrawFn} {N : Nat} {ts : List Tk} {j j' : Nat} {t t1 : Tk}
theorem nd_G (hP : SpSPeek (D 23)) (hM : SpMark0 ts j (D 62)) (ht : ts[j]? = some t) (hk : t.1 = 5) {k on : Nat} {has hl hh mo : Bool} {u v : Int} {σ : H} {p tb : Nat} {d : Int} {m : List V} (h : Px σ p tb ts j m) {S : Nat → Prop} (hS : ∀ c, S c → c < σ.next) {Q : H → List V → Prop}
    (hT : ∀ (b4 b8 : Nat) (σ6 : H), Cx σ6 p tb ts j m b8 (nd 0 false false false false (Int.ofNat 0) (Int.ofNat 0) 0) → Fr (fun k => k = p) σ σ6 → σ.next ≤ b8 → ∃ σ' m', NT D (J53_1 [] D W N) p 0 d true b4 b8 σ6 = J53_1 [] D W N b4 0 true b8 0 σ' ∧ Cx σ' p tb ts j' m' b8 (nd k has hl hh mo u v on) ∧ Fr (fun k => S k ∨ k = b8) σ6 σ' ∧ Q σ' m') :
    ∃ σ7 σ8 m' b4, F53 [] D W N [.ptr p 0, .int .i64 d] σ = some (.tup [.agg (nd k has hl hh mo u v on), .bool true], σ8) ∧ Px σ8 p tb ts j' m' ∧ Fr (fun k => k = p ∨ S k) σ σ8 ∧ Q σ7 m' ∧ Fr (fun k => k = b4) σ7 σ8 ∧ b4 = σ.next := by
  obtain ⟨σ1, e1, f1, a1, n1⟩ := mk_new h.tidy zero16
  have x1 := h.fr f1 (fun h => h) (fun h => h)
  have lp := h.lt; have ltb := h.tlt
  have g2 := hM σ1 p tb m x1
  obtain ⟨σ3, e3, f3, a3, n3⟩ := mk_new x1.tidy zero16
  have x3 := x1.fr f3 (fun h => h) (fun h => h)
  have a13 := f3.at_ a1 x1.tidy (fun h => h)
  obtain ⟨σ4, e4, f4, a4⟩ := mk_set x3.tidy a3 (nd 0 false false false false (Int.ofNat 0) (Int.ofNat 0) 0)
  have x4 := x3.fr f4 (by omega) (by omega)
  have a14 := f4.at_ a13 x3.tidy (by omega)
  have le4 : σ3.next ≤ σ4.next := f4.le
  obtain ⟨σ5, e5, f5, a5, n5⟩ := mk_new x4.tidy [.int .i64 (Int.ofNat 0), .str ⟨0, 0⟩, .int .i64 (Int.ofNat 0)]
  have x5 := x4.fr f5 (fun h => h) (fun h => h)
  have a15 := f5.at_ a14 x4.tidy (fun h => h)
  have a45 := f5.at_ a4 x4.tidy (fun h => h)
  obtain ⟨σ6, e6, f6, a6⟩ := mk_set x5.tidy a5 [.int .i64 (Int.ofNat t.1), .str (ofN t.2.1), .int .i64 (Int.ofNat t.2.2)]
  have x6 := x5.fr f6 (by omega) (by omega)
  have a16 := f6.at_ a15 x5.tidy (by omega)
  have a46 := f6.at_ a45 x5.tidy (by omega)
  have le6 : σ5.next ≤ σ6.next := f6.le
  have pk := hP σ4 p tb j ts _ t x4 ht
  have q16 : Fr (fun k => k = p) σ σ6 := ((((f1.mono (T := fun k => k = p) (fun _ _ h => h.elim)).trans f3 (fun _ _ h => h.elim)).trans f4 (fun c hc h => by have h : c = σ1.next := h; omega)).trans f5 (fun _ _ h => h.elim)).trans f6 (fun c hc h => by have h : c = σ4.next := h; omega)
  have q16' := q16.le
  obtain ⟨σ7, m', e7, c7, f7, q7⟩ := hT σ.next σ1.next σ6 ⟨x6, a46, by omega, by omega⟩ q16 (by omega)
  have a17 := f7.at_ a16 x6.tidy (fun hh => by
    rcases hh with hh | hh
    · have := hS _ hh; omega
    · omega)
  have f8 := Fr.set c7.x.tidy (a17.lt c7.x.tidy) (.cells (nd k has hl hh mo u v on))
  have l7 := c7.x.lt; have lt7 := c7.x.tlt
  refine ⟨σ7, _, m', σ.next, ?_, c7.x.fr f8 (by omega) (by omega), ((q16.mono (T := fun k => k = p ∨ S k) (fun _ _ h => .inl h)).trans f7 (fun c hc h => by
    rcases h with h | h
    · exact .inr h
    · have h : c = σ1.next := h
      omega)).trans f8 (fun c hc h => by have h : c = σ.next := h; omega), q7, f8, by omega⟩
  rw [← node_end (D := D) (W := W) (N := N) c7.c a17 (z := []), ← e7]
  show T53_0 [] D W (J53_1 [] D W N) p 0 d σ = _
  unfold T53_0
  show callK (D 62 [.ptr p 0] (newB σ (.cells zero16))) _ = _
  rw [e1, g2]
  simp only [callK_some_, rtTup_tup, rtCons_cons, rtAgg_agg, rtBool_bool, rtInt_int, rtNil_nil, Bool.not_true, condK_false]
  show stK 16 (H.next σ1) 0 _ (newB σ1 (.cells zero16)) _ = _
  rw [e3, stK_at a3 rfl]
  show callK (D 23 [.ptr p 0] (setF σ3 σ1.next (.cells (nd 0 false false false false (Int.ofNat 0) (Int.ofNat 0) 0)))) _ = _
  rw [e4, pk]
  simp only [callK_some_, tokV, rtAgg_agg, rtCons_cons, rtInt_int, rtStr_str, rtNil_nil]
  show stK 3 (H.next σ4) 0 _ (newB σ4 (.cells [.int .i64 (Int.ofNat 0), .str ⟨0, 0⟩, .int .i64 (Int.ofNat 0)])) _ = _
  have e6' : setF σ5 σ4.next (.cells (spl [V.int .i64 (Int.ofNat 0), .str ⟨0, 0⟩, .int .i64 (Int.ofNat 0)] 0 (V.agg [.int .i64 (Int.ofNat t.1), .str (ofN t.2.1), .int .i64 (Int.ofNat t.2.2)]).cells)) = σ6 := e6
  rw [e5, stK_at a5 rfl, e6']
  show ldK [] σ6 σ4.next 0 _ = _
  rw [ldK_at a6 rfl]
  simp only [rtInt_int]
  rw [show eqF (Int.ofNat t.1) (Int.ofNat 1) = false by rw [hk]; rfl, condK_false]
  rfl

def SpSq (ts : List Tk) (j j' : Nat) (hl hh mo : Bool) (u v : Int) (d : Nat) (F : List V → H → Ans) : Prop := ∀ (σ : H) (p tb cb nb : Nat) (v0 v1 v2 v3 : V), Cx σ p tb ts j (rest7 v0 v1 v2 v3 (.sl nb 0 1 (.op 16)) 0 0) cb (nd 0 false false false false (Int.ofNat 0) (Int.ofNat 0) 0) → Atc σ nb zero16 → nb ≠ p → nb ≠ tb → nb ≠ cb →
  ∃ σ' nb', F [.ptr p 0, .ptr cb 0, .int .i64 (Int.ofNat d)] σ = some (.bool true, σ') ∧ Cx σ' p tb ts j' (rest7 v0 v1 v2 v3 (.sl nb' 0 2 (.op 16)) 0 0) cb (nd 10 true hl hh mo u v 1) ∧ Atc σ' nb' (zero16 ++ nd 4 false false false false (Int.ofNat 0) (Int.ofNat 0) 0) ∧ nb' ≠ p ∧ nb' ≠ tb ∧ σ.next ≤ nb' ∧ Fr (fun c => (c = p ∨ c = nb) ∨ c = cb) σ σ'
theorem addD {d : Nat} (h : d ≤ 16) : addF .i64 (Int.ofNat d) (Int.ofNat 1) = Int.ofNat (d + 1) := addF_nat (by omega)
theorem seq_F (hS : SpStands (D 22)) (hW : SpWant (D 21)) {hl hh mo : Bool} {u v : Int} {d j1 : Nat} (hd : d ≤ 16) (ht : ts[j]? = some t) (hs : stB t (BS.mk 1 123) = false) (hB : SpBd ts j j1 hl hh mo u v (D 63)) (ht1 : ts[j1]? = some t1) (hs1 : stB t1 (BS.mk 2 17999) = true)
    (hT : SpTy ts (j1 + 1) j' 1 2 zero16 (zero16 ++ nd 4 false false false false (Int.ofNat 0) (Int.ofNat 0) 0) (d + 1) (D 44)) : SpSq ts j j' hl hh mo u v d (F67 [] D W N) := by
  intro σ p tb cb nb v0 v1 v2 v3 h a n1 n2 n3
  have e0 := hS σ p tb j ts _ t (BS.mk 1 123) h.x ht
  rw [hs] at e0
  obtain ⟨σ1, e1, g1, f1⟩ := h.st 0 (.int .i64 (Int.ofNat 10)) rfl
  have a1 := f1.at_ a h.x.tidy (fun e => by rcases e with e | e <;> omega)
  obtain ⟨σ2, e2, g2, f2⟩ := hB σ1 p tb _ cb 10 0 g1
  have a2 := f2.at_ a1 g1.x.tidy (fun e => by rcases e with e | e <;> omega)
  obtain ⟨σ3, e3, g3, z3, n31, n32, f3⟩ := g2.new [V.str (BS.mk 2 17999)]
  have a3 := f3.at_ a2 g2.x.tidy (fun e => by rcases e with e | e <;> omega)
  obtain ⟨σ4, e4, g4, f4⟩ := g3.want hW (l := [BS.mk 2 17999]) z3 n31 ⟨⟨t1, ht1, hs1⟩, trivial⟩ (by simp)
  have a4 := f4.at_ a3 g3.x.tidy (fun e => by rcases e with e | e <;> omega)
  obtain ⟨σ5, nb', e5, x5, a5, m1, m2, m3, f5⟩ := hT σ4 p tb v0 v1 v2 v3 _ g4.x (.inr ⟨nb, rfl, a4, by omega, rfl⟩) (fun b hb => by have hb : b = nb := hb; omega)
  have c5 := f5.at_ g4.c g4.x.tidy (fun e => by
    rcases e with e | e
    · exact g4.np e
    · have e : cb = nb := e
      omega)
  have lc := g4.c.lt g4.x.tidy
  have l1 := f1.le; have l2 := f2.le; have l3 := f3.le; have l4 := f4.le
  have g5 : Cx σ5 p tb ts j' (rest7 v0 v1 v2 v3 (.sl nb' 0 2 (.op 16)) 0 0) cb (nd 10 true hl hh mo u v 0) := ⟨x5, c5, h.np, h.nt⟩
  obtain ⟨σ6, e6, g6, f6⟩ := g5.st (Nat.add 0 15) (.int .i64 (Int.ofNat 1)) rfl
  have a6 := f6.at_ a5 x5.tidy (fun e => by rcases e with e | e <;> omega)
  have w : ∀ {σ σ' : H}, Fr (fun k => k = p ∨ k = cb) σ σ' → Fr (fun c => (c = p ∨ c = nb) ∨ c = cb) σ σ' := fun f => f.mono (fun c _ e => by rcases e with e | e <;> simp [e])
  refine ⟨σ6, nb', ?_, g6, a6, m1, m2, by omega, (((((w f1).trans f2 (fun c _ e => by rcases e with e | e <;> simp [e])).trans f3 (fun c _ e => by rcases e with e | e <;> simp [e])).trans f4 (fun c _ e => by rcases e with e | e <;> simp [e])).trans f5 (fun c _ e => .inl e)).trans f6 (fun c _ e => by rcases e with e | e <;> simp [e])⟩
  show T67_0 [] D W p 0 cb 0 (Int.ofNat d) σ = _
  simp only [T67_0, e0, callK_some_, rtBool_bool, condK_false, e1]
  have e2' : D 63 [.ptr p 0, .ptr cb (Nat.add 0 5)] σ1 = some (.bool true, σ2) := e2
  simp only [e2', callK_some_, rtBool_bool, joinB_, Bool.not_true, condK_false]
  rw [e3]
  have e4' : D 21 [.ptr p 0, .sl (H.next σ2) 0 1 (.ex 1)] σ3 = some (.bool true, σ4) := e4
  simp only [e4', callK_some_, rtBool_bool, Bool.not_true, condK_false]
  rw [addD hd, e5]
  simp only [callK_some_, rtTup_tup, rtCons_cons, rtInt_int, rtBool_bool, rtNil_nil, e6]
theorem seqnode_F (hP : SpSPeek (D 23)) (hI : SpIs (D 43)) (hM : SpMark0 ts j (D 62)) (ht : ts[j]? = some t) (hk : t.1 = 5)
    (h0 : stB t (BS.mk 7 22026814072246082) = false) (h1 : stB t (BS.mk 4 1280070990) = false) (h2 : stB t (BS.mk 10 488440487847103610377301) = false) (h3 : stB t (BS.mk 7 23157120498421321) = false) (h4 : stB t (BS.mk 5 361940403023) = false)
    (h5 : stB t (BS.mk 10 322399817400452109389381) = false) (h6 : stB t (BS.mk 3 5522771) = false) (h7 : stB t (BS.mk 6 76155295057987) = false) (h8 : stB t (BS.mk 8 4990918871747741011) = true) {hl hh mo : Bool} {u v : Int} {d : Nat}
    (hQ : SpSq ts (j + 1) j' hl hh mo u v d (D 67)) : SpNt ts j j' 0 2 [] (nd 4 false false false false (Int.ofNat 0) (Int.ofNat 0) 0) (nd 10 true hl hh mo u v 1) d (F53 [] D W N) := by
  intro σ p tb v0 v1 v2 v3 nb x a n1 n2
  have ln := a.lt x.tidy
  obtain ⟨σ7, σ8, m', b4, e, x8, f8, ⟨nb', q1, q2, q3, q4, q5, q6⟩, f78, l4⟩ := nd_G (D := D) (W := W) (N := N) (d := Int.ofNat d) hP hM ht hk x (S := fun k => k = p ∨ k = nb) (fun c hc => by
      have lp := x.lt
      rcases hc with hc | hc <;> omega)
    (Q := fun σ7 m' => ∃ nb', m' = rest7 v0 v1 v2 v3 (.sl nb' 0 2 (.op 16)) 0 0 ∧ Atc σ7 nb' (zero16 ++ nd 4 false false false false (Int.ofNat 0) (Int.ofNat 0) 0) ∧ nb' ≠ p ∧ nb' ≠ tb ∧ σ.next < nb' ∧ Tidy σ7) (k := 10) (has := true) (hl := hl) (hh := hh) (mo := mo) (u := u) (v := v) (on := 1) (j' := j')
    (fun b4 b8 σ6 c f hb8 => by
      have a6 := f.at_ a x.tidy n1
      have i0 := c.isF hI ht h0
      have i1 := c.isF hI ht h1
      have i2 := c.isF hI ht h2
      have i3 := c.isF hI ht h3
      have i4 := c.isF hI ht h4
      have i5 := c.isF hI ht h5
      have i6 := c.isF hI ht h6
      have i7 := c.isF hI ht h7
      obtain ⟨σ9, e9, g9, f9⟩ := c.isT hI ht h8
      have a9 := f9.at_ a6 c.x.tidy (fun e => by rcases e with e | e <;> omega)
      have l9 := f9.le
      have l6 := f.le
      have lc := c.c.lt c.x.tidy
      obtain ⟨σ', nb', e', g', a', m1, m2, m3, f'⟩ := hQ σ9 p tb b8 nb v0 v1 v2 v3 g9 a9 n1 n2 (by omega)
      refine ⟨σ', _, ?_, g', ?_, nb', rfl, a', m1, m2, by omega, g'.x.tidy⟩
      · unfold NT
        simp only [i0, i1, i2, i3, i4, i5, i6, i7, e9, callK_some_, rtBool_bool, condK_true, condK_false, e']
      · exact (f9.mono (T := fun k => (k = p ∨ k = nb) ∨ k = b8) (fun c _ e => by rcases e with e | e <;> simp [e])).trans f' (fun c _ e => e))
  subst l4
  subst q1
  exact ⟨σ8, nb', e, x8, by rw [List.nil_append]; exact f78.at_ q2 q6 (by omega), q3, q4, .inr (by omega), f8.mono (fun c _ e => by rcases e with e | e | e <;> simp [e])⟩
end
end
end Go.Proofs.YtjolbidcficdhaaDoor
