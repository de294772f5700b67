/- Parse on a module of one type, with bounds. -/
import Derived.Test.YtjolbidcficdhaaDoorBm
import Derived.Test.YtjolbidcficdhaaDoorPq
set_option linter.all false
set_option maxRecDepth 100000
namespace Go.Proofs.YtjolbidcficdhaaDoor
open Go Go.Og
noncomputable section
section
variable {D : Den} {N : Nat}
def ParseN (r : NodR) (σ' : H) (u : V) : Prop := match r.ok with
  | true => ∃ nm n' t' nb, u = .tup [.agg [.str nm, .int .i64 (Int.ofNat 0), n', t', .sl nb 0 r.n (.op 16)], .int .i64 (Int.ofNat 0), .int .i64 (Int.ofNat 0)] ∧ Atc σ' nb r.node ∧ n'.one = true ∧ t'.one = true
  | false => u = .tup [.agg zero5, .int .i64 (Int.ofNat r.a), .int .i64 (Int.ofNat r.e)]
theorem parseN_F (hTk : SpTokens N (D 11)) {r : NodR} {ts : List Tk} {s : BS} (hM : SpModN (ts ++ [(0, [], s.len)]) r (D 12)) (hs : s.len ≤ 8000) (hts : Toks N s.len (skipF N s.nats) ts) {σ : H} (ht : Tidy σ) :
    ∃ σ' u, F7 [] D (drawW [] D) N [.str s] σ = some (u, σ') ∧ ParseN r σ' u ∧ Fr Nowhere σ σ' := by
  obtain ⟨σ1, e1, f1, a1, n1⟩ := mk_new ht zero5
  obtain ⟨σ2, u, g2, x2, f2⟩ := hTk σ1 s ts f1.tidy hs hts
  have a2 := f2.at_ a1 f1.tidy (fun h => h)
  have hl := hts.len
  have hsk := skipF_le N s.nats
  rw [BS.length_nats] at hsk
  have le2 : σ1.next ≤ σ2.next := f2.le
  obtain ⟨tb, rfl, atb, _, hln⟩ : ∃ tb, u = .sl tb 0 (ts.length + 1) (.op 3) ∧ Atc σ2 tb (tokCells (ts ++ [(0, [], s.len)])) ∧ 0 < ts.length + 1 ∧ (tokCells (ts ++ [(0, [], s.len)])).length = (ts.length + 1) * 3 := by
    rcases x2 with ⟨h, _⟩ | h
    · omega
    · exact h
  have hlen : (ts ++ [(0, [], s.len)]).length = ts.length + 1 := by simp
  obtain ⟨σ3, e3, f3, a3, n3⟩ := mk_new f2.tidy (pcells tb (ts ++ [(0, [], s.len)]).length 0 (rest7 (.str ⟨0, 0⟩) (.int .i64 (Int.ofNat 0)) .nils .nils .nils 0 0))
  have atl := atb.lt f2.tidy
  have x3 : Px σ3 σ2.next tb (ts ++ [(0, [], s.len)]) 0 (rest7 (.str ⟨0, 0⟩) (.int .i64 (Int.ofNat 0)) .nils .nils .nils 0 0) := by
    refine ⟨a3, f3.at_ atb f2.tidy (fun h => h), by omega, f3.tidy, by rw [hlen]; omega, ?_⟩
    intro i t hi ht0
    rw [hlen]
    by_cases hil : i < ts.length
    · omega
    · exfalso
      rw [List.getElem?_append_right (by omega)] at hi
      rcases Nat.eq_zero_or_pos (i - ts.length) with h0 | h0
      · rw [h0] at hi
        simp at hi
        subst hi
        exact ht0 rfl
      · rw [List.getElem?_eq_none (by simp; omega)] at hi
        cases hi
  have a23 := f3.at_ a2 f2.tidy (fun h => h)
  obtain ⟨σ4, nb, j', nm, n', t', g4, x4, b4, lnb, f4, hn1⟩ := hM σ3 σ2.next tb x3
  have a4 := f4.at_ a23 x3.tidy (by omega)
  have fr : Fr Nowhere σ σ4 := (((f1.trans f2 (fun _ _ h => h)).trans f3 (fun _ _ h => h)).trans f4 (fun c hc h => by have h : c = σ2.next := h; omega))
  have head : F7 [] D (drawW [] D) N [.str s] σ = condK (not r.ok) (
      gdrawK (drawW [] D G7_0 H7_0 [(2, .ptr σ.next 0), (8, .ptr σ2.next 0)] σ4) fun e25 s26 =>
      getL e25 2 fun u27 => rtPtr u27 fun b28 o29 => getL e25 3 fun u30 => rtInt .i64 u30 fun x31 => getL e25 4 fun u32 => rtInt .i64 u32 fun x33 => ldnK [] s26 b28 o29 5 fun u34 => some (.tup [.agg u34, .int .i64 x31, .int .i64 x33], s26)) (
      ldnK [] σ4 σ2.next 2 5 fun l35 => rtCons l35 fun x36 l37 => rtStr x36 fun x38 => rtCons l37 fun x39 l40 => rtInt .i64 x39 fun x41 => rtCons l40 fun x42 l43 => rtCons l43 fun x44 l45 => rtCons l45 fun x46 l47 => rtNil l47 (
      stK 5 σ.next 0 (.agg [.str x38, .int .i64 x41, x42, x44, x46]) σ4 fun s48 => ldnK [] s48 σ.next 0 5 fun u49 => some (.tup [.agg u49, .int .i64 (Int.ofNat 0), .int .i64 (Int.ofNat 0)], s48))) := by
    show T7_0 [] D (drawW [] D) s σ = _
    unfold T7_0
    show callK (D 11 [.str s] (newB σ (.cells zero5))) _ = _
    rw [e1, g2]
    simp only [callK_some_, rtTup_tup, rtCons_cons, rtInt_int, rtNil_nil]
    show condK false _ _ = _
    rw [condK_false]
    show callK (D 12 [.ptr σ2.next 0] (newB σ2 (.cells (pcells tb (ts.length + 1) 0 (rest7 (.str ⟨0, 0⟩) (.int .i64 (Int.ofNat 0)) .nils .nils .nils 0 0))))) _ = _
    rw [← hlen, e3, g4]
    simp only [callK_some_, rtBool_bool]
  rw [head]
  cases hok : r.ok with
  | false =>
    obtain ⟨env, σ5, d5, l2, l3, l4, a5, f5⟩ := reg_parse (D := D) x4 a4 (by omega)
    refine ⟨σ5, .tup [.agg zero5, .int .i64 (Int.ofNat r.a), .int .i64 (Int.ofNat r.e)], ?_, ?_, fr.trans f5 (fun c hc h => by have h : c = σ.next := h; omega)⟩
    · rw [Bool.not_false, condK_true, d5]
      show getL env 2 _ = _
      rw [getL_of l2 rfl, rtPtr_ptr, getL_of l3 rfl, rtInt_int, getL_of l4 rfl, rtInt_int, ldnK_at a5 (by show 0 + 5 ≤ 5; omega)]
      rfl
    · unfold ParseN; rw [hok]
  | true =>
    rw [Bool.not_true, condK_false, ldnK_at x4.at_ (by show 2 + 5 ≤ 9; omega)]
    have et : List.take 5 (List.drop 2 (pcells tb (ts ++ [(0, [], s.len)]).length j' (rest7 (.str nm) (.int .i64 (Int.ofNat 0)) n' t' (.sl nb 0 r.n (.op 16)) r.a r.e))) = [.str nm, .int .i64 (Int.ofNat 0), n', t', .sl nb 0 r.n (.op 16)] := rfl
    rw [et]
    simp only [rtCons_cons, rtStr_str, rtInt_int, rtNil_nil]
    obtain ⟨σ5, e5, f5, a5⟩ := mk_set x4.tidy a4 [.str nm, .int .i64 (Int.ofNat 0), n', t', .sl nb 0 r.n (.op 16)]
    have bne : nb ≠ σ.next := by omega
    refine ⟨σ5, .tup [.agg [.str nm, .int .i64 (Int.ofNat 0), n', t', .sl nb 0 r.n (.op 16)], .int .i64 (Int.ofNat 0), .int .i64 (Int.ofNat 0)], ?_, ?_, fr.trans f5 (fun c hc h => by have h : c = σ.next := h; omega)⟩
    · rw [stK_at a4 (by show (true && true && allOne [V.str nm, .int .i64 (Int.ofNat 0), n', t', .sl nb 0 r.n (.op 16)]) = true; simp only [allOne, hn1.1, hn1.2]; rfl)]
      show ldnK [] (setF σ4 σ.next (.cells [.str nm, .int .i64 (Int.ofNat 0), n', t', .sl nb 0 r.n (.op 16)])) σ.next 0 5 (fun u49 => some (V.tup [.agg u49, .int .i64 (Int.ofNat 0), .int .i64 (Int.ofNat 0)], setF σ4 σ.next (.cells [.str nm, .int .i64 (Int.ofNat 0), n', t', .sl nb 0 r.n (.op 16)]))) = _
      rw [e5, ldnK_at a5 (by show 0 + 5 ≤ 5; omega)]
      rfl
    · unfold ParseN; rw [hok]
      exact ⟨nm, n', t', nb, rfl, f5.at_ b4 x4.tidy bne, hn1⟩
end
end
end Go.Proofs.YtjolbidcficdhaaDoor
