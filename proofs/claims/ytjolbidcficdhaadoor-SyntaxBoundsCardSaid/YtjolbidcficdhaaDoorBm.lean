/- The parser on a module of one type, which is NULL behind a tag: the whole module. -/
import Derived.Test.YtjolbidcficdhaaDoorBq
import Derived.Test.YtjolbidcficdhaaDoorPa
set_option linter.all false
set_option maxRecDepth 100000
namespace Go.Proofs.YtjolbidcficdhaaDoor
open Go Go.Og
noncomputable section
/-- What a type comes to: its nodes, and where it ends. -/
structure NodR where
  ok : Bool
  j2 : Nat
  node : List V
  a : Nat
  e : Nat
  n : Nat
def SpTyN (ts : List Tk) (j : Nat) (r : NodR) (F : List V → H → Ans) : Prop := ∀ (σ : H) (p tb : Nat) (v0 v1 v2 v3 : V), Px σ p tb ts j (rest7 v0 v1 v2 v3 .nils 0 0) →
  ∃ σ' nb, F [.ptr p 0, .int .i64 (Int.ofNat 0)] σ = some (.tup [.int .i64 (Int.ofNat 0), .bool r.ok], σ') ∧ Px σ' p tb ts r.j2 (rest7 v0 v1 v2 v3 (.sl nb 0 r.n (.op 16)) r.a r.e) ∧ Atc σ' nb r.node ∧ σ.next ≤ nb ∧ Fr (fun k => k = p) σ σ'
theorem tyN_of {ts : List Tk} {j j' n : Nat} {l' : List V} {F : List V → H → Ans} (h : SpTy ts j j' 0 n [] l' 0 F) : SpTyN ts j ⟨true, j', l', 0, 0, n⟩ F := by
  intro σ p tb v0 v1 v2 v3 x
  obtain ⟨σ', nb, e, x', a, _, _, l, f⟩ := h σ p tb v0 v1 v2 v3 .nils x (Sl.nil _ _) (fun b hb => hb.elim)
  exact ⟨σ', nb, e, x', a, l, f.mono (fun c _ e => by rcases e with e | e; exact e; exact e.elim)⟩
def SpAssN (ts : List Tk) (j0 : Nat) (r : NodR) (F : List V → H → Ans) : Prop := ∀ (σ : H) (p tb : Nat) (v0 v1 : V), Px σ p tb ts j0 (rest7 v0 v1 .nils .nils .nils 0 0) →
  ∃ σ' nb n' t', F [.ptr p 0] σ = some (.bool r.ok, σ') ∧ Px σ' p tb ts r.j2 (rest7 v0 v1 n' t' (.sl nb 0 r.n (.op 16)) r.a r.e) ∧ Atc σ' nb r.node ∧ σ.next ≤ nb ∧ Fr (fun c => c = p) σ σ' ∧ n'.one = true ∧ t'.one = true
section
variable {D : Den} {W : DrawFn} {N : Nat}
theorem assignN_F (hX : SpNext (D 42)) (hWt : SpWant (D 21)) {ts : List Tk} {j0 : Nat} {r : NodR} (hT : SpTyN ts (j0 + 2) r (D 44)) {t t1 : Tk} (ht : ts[j0]? = some t) (hk : t.1 = 1) (h1 : ts[j0 + 1]? = some t1) (hs1 : stB t1 (BS.mk 3 4012602) = true) :
    SpAssN ts j0 r (F24 [] D (drawW [] D) N) := by
  intro σ p tb v0 v1 h
  have lp := h.lt; have ltb := h.tlt
  have nx := hX σ p tb j0 ts _ t h ht
  rw [hk] at nx
  simp only [] at nx
  have x1 := h.set (j0 + 1) (rest7 v0 v1 .nils .nils .nils 0 0)
  have f1 := h.setFr (j0 + 1) (rest7 v0 v1 .nils .nils .nils 0 0)
  generalize pset σ p tb ts (j0 + 1) (rest7 v0 v1 .nils .nils .nils 0 0) = σ1 at *
  have le1 : σ.next ≤ σ1.next := f1.le
  obtain ⟨σ2, e2, f2, a2, n2⟩ := mk_new x1.tidy [.int .i64 (Int.ofNat 0), .str ⟨0, 0⟩, .int .i64 (Int.ofNat 0)]
  have x2 := x1.fr f2 (fun h => h) (fun h => h)
  obtain ⟨σ3, e3, f3, a3⟩ := mk_set x2.tidy a2 [.int .i64 (Int.ofNat t.1), .str (ofN t.2.1), .int .i64 (Int.ofNat t.2.2)]
  have x3 := x2.fr f3 (by omega) (by omega)
  have le3 : σ2.next ≤ σ3.next := f3.le
  obtain ⟨σ4, e4, f4, a4, n4⟩ := mk_new x3.tidy [V.str (BS.mk 3 4012602)]
  have x4 := x3.fr f4 (fun h => h) (fun h => h)
  have a34 := f4.at_ a3 x3.tidy (fun h => h)
  obtain ⟨σ5, g5, x5, f5⟩ := hWt σ4 p tb (j0 + 1) σ3.next ts _ [BS.mk 3 4012602] x4 a4 (by omega) ⟨⟨t1, h1, hs1⟩, trivial⟩ (by simp)
  have a35 := f5.at_ a34 x4.tidy (by omega)
  have le5 : σ4.next ≤ σ5.next := f5.le
  obtain ⟨σ6, nb, g6, x6, b6, lnb, f6⟩ := hT σ5 p tb v0 v1 .nils .nils x5
  have a36 := f6.at_ a35 x5.tidy (by omega)
  obtain ⟨env, σ7, n', t', d7, e7, x7, f7, o7⟩ := reg_assign (D := D) x6 a36 (by omega) (Int.ofNat 0) r.ok
  refine ⟨σ7, nb, n', t', ?_, x7, f7.at_ b6 x6.tidy (by omega), by omega, ?_, o7⟩
  · have l4 : ∀ κ : V → Ans, ldK [] σ3 p (Nat.add (Nat.add 0 2) 2) κ = κ .nils := fun κ => ldK_at x3.at_ rfl
    have sl0 : ∀ κ : Nat → Ans, slenK .nils κ = κ 0 := fun _ => rfl
    show T24_0 [] D (drawW [] D) p 0 σ = _
    unfold T24_0
    rw [nx]
    simp only [callK_some_, tokV, rtAgg_agg, rtCons_cons, rtInt_int, rtStr_str, rtNil_nil]
    rw [e2, stK_at a2 rfl]
    have hsp : spl [V.int .i64 (Int.ofNat 0), .str ⟨0, 0⟩, .int .i64 (Int.ofNat 0)] 0 (V.agg [.int .i64 (Int.ofNat t.1), .str (ofN t.2.1), .int .i64 (Int.ofNat t.2.2)]).cells = [.int .i64 (Int.ofNat t.1), .str (ofN t.2.1), .int .i64 (Int.ofNat t.2.2)] := rfl
    rw [hsp, e3]
    simp only [l4, sl0]
    rw [show leF (Int.ofNat 40) (Int.ofNat 0) = false from rfl, condK_false, e4]
    have g5' : D 21 [.ptr p 0, .sl (H.next σ3) 0 1 (.ex 1)] σ4 = some (.bool true, σ5) := g5
    simp only [g5', callK_some_, rtBool_bool, Bool.not_true, condK_false, g6, rtTup_tup, rtCons_cons, rtInt_int, rtNil_nil]
    show gdrawK (drawW [] D G24_0 H24_0 [(0, .ptr p 0), (3, .ptr σ1.next 0), (4, .int .i64 (Int.ofNat 0)), (5, .bool r.ok)] σ6) _ = _
    rw [d7]
    show getL env 5 _ = _
    unfold getL
    rw [e7]
    rfl
  · have q1 := f1.trans f2 (fun _ _ h => h.elim)
    have q2 := q1.trans f3 (fun c hc h => by have h : c = σ1.next := h; omega)
    have q3 := q2.trans f4 (fun _ _ h => h.elim)
    exact ((q3.trans f5 (fun _ _ h => h)).trans f6 (fun _ _ h => h)).trans f7 (fun _ _ h => h)

/-! ### the module -/
def SpModN (ts : List Tk) (r : NodR) (F : List V → H → Ans) : Prop := ∀ (σ : H) (p tb : Nat), Px σ p tb ts 0 (rest7 (.str ⟨0, 0⟩) (.int .i64 (Int.ofNat 0)) .nils .nils .nils 0 0) →
  ∃ σ' nb j' v0 n' t', F [.ptr p 0] σ = some (.bool r.ok, σ') ∧ Px σ' p tb ts j' (rest7 (.str v0) (.int .i64 (Int.ofNat 0)) n' t' (.sl nb 0 r.n (.op 16)) r.a r.e) ∧ Atc σ' nb r.node ∧ σ.next ≤ nb ∧ Fr (fun c => c = p) σ σ' ∧ n'.one = true ∧ t'.one = true
/-- The signs ahead of the type, and those behind it. -/
structure ModN (ts : List Tk) (r : NodR) : Prop where
  t0 : ∃ t, ts[0]? = some t ∧ t.1 = 1
  t1 : ∃ t, ts[1]? = some t ∧ stB t (BS.mk 11 100710650190388740279911748) = true
  t2 : ∃ t, ts[2]? = some t ∧ stB t (BS.mk 3 4012602) = true ∧ stB t (BS.mk 8 6073459554577832005) = false ∧ stB t (BS.mk 8 6073459554577829193) = false ∧ stB t (BS.mk 9 1241215773001651606849) = false
  t3 : ∃ t, ts[3]? = some t ∧ stB t (BS.mk 5 336236856642) = true
  t4 : ∃ t, ts[4]? = some t ∧ t.1 = 1
  te : r.ok = true → ∃ t u, ts[r.j2]? = some t ∧ t.1 = 5 ∧ stB t (BS.mk 3 4476485) = true ∧ ts[r.j2 + 1]? = some u ∧ u.1 = 0 ∧ r.a = 0 ∧ r.e = 0
theorem modN_F (hP : SpSPeek (D 23)) (hS : SpStands (D 22)) (hO : SpOf (D 20)) (hWt : SpWant (D 21)) {ts : List Tk} {r : NodR} (hA : SpAssN ts 4 r (D 24)) (hm : ModN ts r) (hN : 10000 < N) :
    SpModN ts r (F12 [] D W N) := by
  intro σ p tb h
  have lp := h.lt; have ltb := h.tlt
  obtain ⟨t0, ht0, hk0⟩ := hm.t0
  obtain ⟨t1, ht1, hs1⟩ := hm.t1
  obtain ⟨t2, ht2, hs2, hx2, hy2, hz2⟩ := hm.t2
  obtain ⟨t3, ht3, hs3⟩ := hm.t3
  obtain ⟨t4, ht4, hk4⟩ := hm.t4
  obtain ⟨σ1, g1, x1, f1⟩ := hO σ p tb 0 ts _ t0 h ht0
  rw [hk0] at g1 x1
  simp only [] at x1
  have le1 := f1.le
  obtain ⟨σ2, e2, f2, a2, n2⟩ := mk_new x1.tidy [V.str (BS.mk 11 100710650190388740279911748)]
  have x2 := x1.fr f2 (fun h => h) (fun h => h)
  obtain ⟨σ3, g3, x3, f3⟩ := hWt σ2 p tb 1 σ1.next ts _ [BS.mk 11 100710650190388740279911748] x2 a2 (by omega) ⟨⟨t1, ht1, hs1⟩, trivial⟩ (by simp)
  have le3 := f3.le
  obtain ⟨σ4, e4, f4, a4⟩ := mk_set x3.tidy x3.at_ (pcells tb ts.length 2 (rest7 (.str (ofN t0.2.1)) (.int .i64 (Int.ofNat 0)) .nils .nils .nils 0 0))
  have x4 : Px σ4 p tb ts 2 (rest7 (.str (ofN t0.2.1)) (.int .i64 (Int.ofNat 0)) .nils .nils .nils 0 0) := ⟨a4, f4.at_ x3.tok x3.tidy x3.ne, x3.ne, f4.tidy, x3.big, x3.last⟩
  have le4 := f4.le
  obtain ⟨σ5, e5, f5, a5, n5⟩ := mk_new x4.tidy [V.str (BS.mk 8 6073459554577832005), V.str (BS.mk 8 6073459554577829193), V.str (BS.mk 9 1241215773001651606849)]
  have x5 := x4.fr f5 (fun h => h) (fun h => h)
  have s1 := hS σ5 p tb 2 ts _ t2 (BS.mk 8 6073459554577832005) x5 ht2
  have s2 := hS σ5 p tb 2 ts _ t2 (BS.mk 8 6073459554577829193) x5 ht2
  have s3 := hS σ5 p tb 2 ts _ t2 (BS.mk 9 1241215773001651606849) x5 ht2
  rw [hx2] at s1; rw [hy2] at s2; rw [hz2] at s3
  obtain ⟨σ6, e6, f6, a6, n6⟩ := mk_new x5.tidy [V.str (BS.mk 3 4012602), V.str (BS.mk 5 336236856642)]
  have x6 := x5.fr f6 (fun h => h) (fun h => h)
  obtain ⟨σ7, g7, x7, f7⟩ := hWt σ6 p tb 2 σ5.next ts _ [BS.mk 3 4012602, BS.mk 5 336236856642] x6 a6 (by omega) ⟨⟨t2, ht2, hs2⟩, ⟨t3, ht3, hs3⟩, trivial⟩ (by simp)
  have le7 := f7.le
  have pk4 := hP σ7 p tb 4 ts _ t4 x7 ht4
  obtain ⟨σ8, nb, n', t', g8, x8, b8, lnb, f8, o8⟩ := hA σ7 p tb _ _ x7
  have q8 : Fr (fun c => c = p) σ σ8 := (((((((f1.trans f2 (fun _ _ h => h.elim)).trans f3 (fun _ _ h => h)).trans f4 (fun _ _ h => h)).trans f5 (fun _ _ h => h.elim)).trans f6 (fun _ _ h => h.elim)).trans f7 (fun _ _ h => h)).trans f8 (fun _ _ h => h))
  obtain ⟨n, rfl⟩ : ∃ n, N = n + 10001 := ⟨N - 10001, by omega⟩
  have k1 : eqF (Int.ofNat t4.1) (Int.ofNat 1) = true := by rw [hk4]; rfl
  -- the loop over what is assigned
  have loop : L12_4 [] D W (n + 10001) (n + 10001) p 0 σ7 = condK (not r.ok) (some (.bool false, σ8)) (L12_4 [] D W (n + 10001) (n + 10000) p 0 σ8) := by
    show T12_4 [] D W (J12_3 [] D W (n + 10001)) (L12_4 [] D W (n + 10001) (n + 10000)) p 0 σ7 = _
    simp only [T12_4, pk4, callK_some_, tokV, rtAgg_agg, rtCons_cons, rtInt_int, rtStr_str, rtNil_nil, k1, condK_true, g8, rtBool_bool]
  have ia : ∀ (i : Nat) (κ : Nat → Nat → Ans), i < 3 → iaddrSK 1 (.sl σ4.next 0 3 (.ex 3)) (Int.ofNat i) κ = κ σ4.next (Nat.add 0 (Nat.mul i 1)) := fun i κ hi => iaddrSK_lt hi
  have tag : L12_2 [] D W (n + 10001) (n + 10001) p 0 (.sl σ4.next 0 3 (.ex 3)) (Int.ofNat 3) (Int.ofNat 0) σ5 = J12_1 [] D W (n + 10001) p 0 σ5 := by
    have it : ∀ (i m : Nat) (s : BS), i < 3 → ([V.str (BS.mk 8 6073459554577832005), V.str (BS.mk 8 6073459554577829193), V.str (BS.mk 9 1241215773001651606849)])[i]? = some (.str s) → D 22 [.ptr p 0, .str s] σ5 = some (.bool false, σ5) →
        L12_2 [] D W (n + 10001) (m + 1) p 0 (.sl σ4.next 0 3 (.ex 3)) (Int.ofNat 3) (Int.ofNat i) σ5 = L12_2 [] D W (n + 10001) m p 0 (.sl σ4.next 0 3 (.ex 3)) (Int.ofNat 3) (Int.ofNat (i + 1)) σ5 := fun i m s hi hs hd => by
      show T12_2 [] D W (J12_1 [] D W (n + 10001)) (L12_2 [] D W (n + 10001) m) p 0 (.sl σ4.next 0 3 (.ex 3)) (Int.ofNat 3) (Int.ofNat i) σ5 = _
      have hld : ∀ κ : V → Ans, ldK [] σ5 σ4.next (Nat.add 0 (Nat.mul i 1)) κ = κ (.str s) := fun κ => ldK_get a5 (by
        have : Nat.add 0 (Nat.mul i 1) = i := by show 0 + i * 1 = i; omega
        rw [this]; exact hs)
      simp only [T12_2, ltF_nat]
      rw [decide_eq_true hi, condK_true, ia i _ hi]
      simp only [hld, rtStr_str, hd, callK_some_, rtBool_bool, Bool.not_false, condK_true]
      rw [addF_nat (by omega)]
    rw [it 0 (n + 10000) _ (by omega) rfl s1, it 1 (n + 9999) _ (by omega) rfl s2, it 2 (n + 9998) _ (by omega) rfl s3]
    rfl
  have head : T12_0 [] D W (L12_2 [] D W (n + 10001) (n + 10001)) p 0 σ = L12_4 [] D W (n + 10001) (n + 10001) p 0 σ7 := by
    unfold T12_0
    have g1' : D 20 [.ptr p 0, .int .i64 (Int.ofNat 1)] σ = some (.tup [tokV t0, .bool true], σ1) := g1
    rw [g1']
    simp only [callK_some_, rtTup_tup, rtCons_cons, tokV, rtAgg_agg, rtInt_int, rtStr_str, rtNil_nil, rtBool_bool, joinB_, Bool.not_true, condK_false]
    rw [e2]
    have g3' : D 21 [.ptr p 0, .sl (H.next σ1) 0 1 (.ex 1)] σ2 = some (.bool true, σ3) := g3
    simp only [g3', callK_some_, rtBool_bool, Bool.not_true, condK_false]
    rw [stK_at x3.at_ rfl]
    show slenK (.sl (setF σ3 p (.cells (pcells tb ts.length 2 (rest7 (.str (ofN t0.2.1)) (.int .i64 (Int.ofNat 0)) .nils .nils .nils 0 0)))).next 0 3 (.ex 3)) (fun n2 => L12_2 [] D W (n + 10001) (n + 10001) p 0 (.sl (setF σ3 p (.cells (pcells tb ts.length 2 (rest7 (.str (ofN t0.2.1)) (.int .i64 (Int.ofNat 0)) .nils .nils .nils 0 0)))).next 0 3 (.ex 3)) (Int.ofNat n2) (Int.ofNat 0) (newB (setF σ3 p (.cells (pcells tb ts.length 2 (rest7 (.str (ofN t0.2.1)) (.int .i64 (Int.ofNat 0)) .nils .nils .nils 0 0)))) (.cells [V.str (BS.mk 8 6073459554577832005), V.str (BS.mk 8 6073459554577829193), V.str (BS.mk 9 1241215773001651606849)]))) = _
    rw [e4, e5]
    refine tag.trans ?_
    show T12_1 [] D W (L12_4 [] D W (n + 10001) (n + 10001)) p 0 σ5 = _
    unfold T12_1
    have g7' : D 21 [.ptr p 0, .sl (H.next σ5) 0 2 (.ex 2)] σ6 = some (.bool true, σ7) := g7
    simp only [e6, g7', callK_some_, rtBool_bool, Bool.not_true, condK_false]
  show ∃ σ' nb j' v0 n' t', T12_0 [] D W (L12_2 [] D W (n + 10001) (n + 10001)) p 0 σ = _ ∧ _
  rw [head, loop]
  cases hok : r.ok with
  | false =>
    exact ⟨σ8, nb, _, _, n', t', rfl, x8, b8, by omega, q8, o8⟩
  | true =>
    obtain ⟨te, u, hte, hke, hse, hu, hku, ha, he⟩ := hm.te hok
    have pke := hP σ8 p tb r.j2 ts _ te x8 hte
    obtain ⟨σ9, e9, f9, a9, n9⟩ := mk_new x8.tidy [V.str (BS.mk 3 4476485)]
    have x9 := x8.fr f9 (fun h => h) (fun h => h)
    have le8 := f8.le
    obtain ⟨σ10, g10, x10, f10⟩ := hWt σ9 p tb r.j2 σ8.next ts _ [BS.mk 3 4476485] x9 a9 (by omega) ⟨⟨te, hte, hse⟩, trivial⟩ (by simp)
    obtain ⟨σ11, g11, x11, f11⟩ := hO σ10 p tb (r.j2 + 1) ts _ u x10 hu
    rw [hku] at g11 x11
    simp only [] at x11
    have k5 : eqF (Int.ofNat te.1) (Int.ofNat 1) = false := by rw [hke]; rfl
    have b9 := f9.at_ b8 x8.tidy (fun h => h)
    have b10 := f10.at_ b9 x9.tidy (by omega)
    have b11 := f11.at_ b10 x10.tidy (by omega)
    refine ⟨σ11, nb, _, _, n', t', ?_, x11, b11, by omega, ((q8.trans f9 (fun _ _ h => h.elim)).trans f10 (fun _ _ h => h)).trans f11 (fun _ _ h => h), o8⟩
    rw [Bool.not_true, condK_false]
    show T12_4 [] D W (J12_3 [] D W (n + 10001)) (L12_4 [] D W (n + 10001) (n + 9999)) p 0 σ8 = _
    simp only [T12_4, pke, callK_some_, tokV, rtAgg_agg, rtCons_cons, rtInt_int, rtStr_str, rtNil_nil, k5, condK_false]
    show T12_3 [] D W p 0 σ8 = _
    unfold T12_3
    have g10' : D 21 [.ptr p 0, .sl (H.next σ8) 0 1 (.ex 1)] σ9 = some (.bool true, σ10) := g10
    have g11' : D 20 [.ptr p 0, .int .i64 (Int.ofNat 0)] σ10 = some (.tup [tokV u, .bool true], σ11) := g11
    simp only [e9, g10', callK_some_, rtBool_bool, Bool.not_true, condK_false, g11', rtTup_tup, rtCons_cons, tokV, rtAgg_agg, rtInt_int, rtStr_str, rtNil_nil]
end
end
end Go.Proofs.YtjolbidcficdhaaDoor
