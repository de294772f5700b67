/- Parse on such a module. -/
import Derived.Test.YtjolbidcficdhaaDoorPm
set_option linter.all false
set_option maxRecDepth 100000
namespace Go.Proofs.YtjolbidcficdhaaDoor
open Go Go.Og
noncomputable section
theorem store_n {D : Den} {n : Nat} {x v : AO} {e : Env} {b off nx : Nat} {h : List (Nat × Blk)} {c : List V} (hx : opv e x = .ptr b off) (hl : Go.Og.look h b = some (.cells c)) (hc : (Nat.beq (opv e v).cells.length n && Nat.ble (off + n) c.length && allOne (opv e v).cells) = true) :
    den1 [] D (.store n x v) e ⟨nx, h⟩ = some (.dead, ⟨nx, repl h b (.cells (spl c off (opv e v).cells))⟩) := by
  show aopK [] (.store n x v) e ⟨nx, h⟩ = _
  unfold aopK
  simp only [hx, hl]
  rw [if_pos hc]
  rfl
theorem getL_of {e : Env} {t : Nat} {v : V} {κ : V → Ans} (h : Go.Og.look e t = some v) (hl : v.live = true) : getL e t κ = κ v := by
  unfold getL
  rw [h]
  exact chk_true hl
def zero5 : List V := [.str ⟨0, 0⟩, .int .i64 (Int.ofNat 0), .nils, .nils, .nils]
section
variable {D : Den} {N : Nat}
theorem reg_parse {σ : H} {p tb j a e rb : Nat} {ts : List Tk} {v0 v1 v2 v3 v4 : V} (h : Px σ p tb ts j (rest7 v0 v1 v2 v3 v4 a e)) (hr : Atc σ rb zero5) (hne : rb ≠ p) :
    ∃ env σ', drawW [] D G7_0 H7_0 [(2, .ptr rb 0), (8, .ptr p 0)] σ = some (env, σ') ∧ Go.Og.look env 2 = some (.ptr rb 0) ∧ Go.Og.look env 3 = some (.int .i64 (Int.ofNat a)) ∧ Go.Og.look env 4 = some (.int .i64 (Int.ofNat e)) ∧ Atc σ' rb zero5 ∧ Fr (fun c => c = rb) σ σ' := by
  have lp := h.lt; have lr := hr.lt h.tidy
  have gap := h.tidy.gap 12
  have p0 : Go.Og.look σ.bl p = some (.cells (pcells tb ts.length j (rest7 v0 v1 v2 v3 v4 a e))) := by rw [← lookF_eq]; exact h.at_
  have r0 : Go.Og.look σ.bl rb = some (.cells zero5) := by rw [← lookF_eq]; exact hr
  let h1 : List (Nat × Blk) := repl σ.bl rb (.cells zero5)
  have l1 : ∀ id, Go.Og.look h1 id = if rb = id then some (.cells zero5) else Go.Og.look σ.bl id := fun id => by show Go.Og.look (repl σ.bl rb _) id = _; rw [look_repl' r0]
  have p1 : Go.Og.look h1 p = some (.cells (pcells tb ts.length j (rest7 v0 v1 v2 v3 v4 a e))) := by rw [l1, if_neg hne]; exact p0
  have gap1 : ∀ i, i < 12 → Go.Og.look h1 (σ.next + i) = none := fun i hi => by rw [l1, if_neg (by omega)]; exact gap _ (by omega) (by omega)
  have ld : ∀ (l : List (Nat × Blk)) (q : Nat → Bool) (nx off : Nat) (v : V) (y : Nat), Go.Og.look l p = some (.cells (pcells tb ts.length j (rest7 v0 v1 v2 v3 v4 a e))) → (pcells tb ts.length j (rest7 v0 v1 v2 v3 v4 a e))[off]? = some v →
      aopL [] (.load none (.tmp y)) [(y, .ptr p off)] ⟨nx, hideB σ.next 12 q l⟩ = some v := fun l q nx off v y hl hv =>
    load_of (b := p) (off := off) (by show getE [(y, V.ptr p off)] y = _; simp [getE, Go.Og.look]) (by rw [look_hide_old lp]; exact hl) hv
  have hb : V.beq (.int .i64 (Int.ofNat a)) (.int .i64 (Int.ofNat a)) = true := by simp [V.beq]
  have hb2 : V.beq (.int .i64 (Int.ofNat e)) (.int .i64 (Int.ofNat e)) = true := by simp [V.beq]
  let env : Env := [(4, .int .i64 (Int.ofNat e)), (3, .int .i64 (Int.ofNat a)), (35, .int .i64 (Int.ofNat e)), (34, .ptr p 8), (33, .ptr p 0), (32, .ptr p 0), (31, .int .i64 (Int.ofNat a)), (30, .ptr p 7), (29, .ptr p 0), (28, .ptr p 0), (27, .agg zero5), (2, .ptr rb 0), (8, .ptr p 0)]
  refine ⟨env, ⟨σ.next + 12, hideB σ.next 12 (fun k => (0 : Nat).testBit k) h1⟩, drawW_of (s := ⟨env, σ.next + 12, [h1, σ.bl], [9], 0, [(8, .load none (.tmp 34), [(34, .ptr p 8)], .int .i64 (Int.ofNat e)), (4, .load none (.tmp 30), [(30, .ptr p 7)], .int .i64 (Int.ofNat a))]⟩) ?_ ?_ rfl, rfl, rfl, rfl, ?_, ?_⟩
  · refine (dp (.agg zero5) rfl rfl).trans ?_
    refine (dp (.ptr p 0) rfl rfl).trans ?_
    refine (dp (.ptr p 0) rfl rfl).trans ?_
    refine (dp (.ptr p 7) rfl rfl).trans ?_
    refine (dl (.int .i64 (Int.ofNat a)) rfl (ld σ.bl _ _ 7 _ 30 p0 rfl)).trans ?_
    refine (dp (.ptr p 0) rfl rfl).trans ?_
    refine (dp (.ptr p 0) rfl rfl).trans ?_
    refine (dp (.ptr p 8) rfl rfl).trans ?_
    refine (dl (.int .i64 (Int.ofNat e)) rfl (ld σ.bl _ _ 8 _ 34 p0 rfl)).trans ?_
    refine (dk .dead (σ.next + 12) h1 rfl (hide_keep (n := 12) fun i hi _ => gap _ (by omega) (by omega)) (store_n (b := rb) (off := 0) rfl r0 rfl)).trans ?_
    refine (dp (.int .i64 (Int.ofNat a)) rfl rfl).trans ?_
    refine (dp (.int .i64 (Int.ofNat e)) rfl rfl).trans ?_
    exact dsteps_nil
  · simp only [List.all_cons, List.all_nil, Bool.and_true, Bool.and_eq_true]
    refine ⟨?_, ?_⟩
    · refine (check_take (ld h1 _ 0 8 _ 34 p1 rfl) hb2).trans ?_
      exact check_last (ld σ.bl _ 0 8 _ 34 p0 rfl) hb2
    · refine (check_take (ld h1 _ 0 7 _ 30 p1 rfl) hb).trans ?_
      exact check_last (ld σ.bl _ 0 7 _ 30 p0 rfl) hb
  · have hh := (hide_keep (p := fun k => (0 : Nat).testBit k) fun i hi _ => gap1 i hi).1
    rw [hh]
    show lookF h1 rb = _
    rw [lookF_eq, l1, if_pos rfl]
  · have hh := (hide_keep (p := fun k => (0 : Nat).testBit k) fun i hi _ => gap1 i hi).1
    rw [hh]
    refine ⟨fun b hb => ?_, by show σ.next ≤ σ.next + 12; omega, fun b hb hn => ?_⟩
    · have hb : σ.next + 12 ≤ b := hb
      show lookF h1 b = none
      rw [lookF_eq, l1, if_neg (by omega), ← lookF_eq]; exact h.tidy b (by omega)
    · show lookF h1 b = _
      rw [lookF_eq, l1, if_neg (fun hh => hn hh.symm), ← lookF_eq]

/-- What Parse answers. -/
def ParseR (r : MarkR) (σ' : H) (u : V) : Prop := match r.ok with
  | true => ∃ nm n' t' nb, u = .tup [.agg [.str nm, .int .i64 (Int.ofNat 0), n', t', .sl nb 0 1 (.op 16)], .int .i64 (Int.ofNat 0), .int .i64 (Int.ofNat 0)] ∧ Atc σ' nb r.node ∧ n'.one = true ∧ t'.one = true
  | false => u = .tup [.agg zero5, .int .i64 (Int.ofNat r.a), .int .i64 (Int.ofNat r.e)]
theorem parse_F (hTk : SpTokens N (D 11)) {r : MarkR} {ts : List Tk} {s : BS} (hM : SpMod (ts ++ [(0, [], s.len)]) r (D 12)) (hs : s.len ≤ 8000) (hts : Toks N s.len (skipF N s.nats) ts) {σ : H} (ht : Tidy σ) :
    ∃ σ' u, F7 [] D (drawW [] D) N [.str s] σ = some (u, σ') ∧ ParseR r σ' u ∧ Fr Nowhere σ σ' := by
  obtain ⟨σ1, e1, f1, a1, n1⟩ := mk_new ht zero5
  obtain ⟨σ2, u, g2, x2, f2⟩ := hTk σ1 s ts f1.tidy hs hts
  have a2 := f2.at_ a1 f1.tidy (fun h => h)
  have hl := hts.len
  have hsk := skipF_le N s.nats
  rw [BS.length_nats] at hsk
  have le2 : σ1.next ≤ σ2.next := f2.le
  obtain ⟨tb, rfl, atb, _, hln⟩ : ∃ tb, u = .sl tb 0 (ts.length + 1) (.op 3) ∧ Atc σ2 tb (tokCells (ts ++ [(0, [], s.len)])) ∧ 0 < ts.length + 1 ∧ (tokCells (ts ++ [(0, [], s.len)])).length = (ts.length + 1) * 3 := by
    rcases x2 with ⟨h, _⟩ | h
    · omega
    · exact h
  have hlen : (ts ++ [(0, [], s.len)]).length = ts.length + 1 := by simp
  obtain ⟨σ3, e3, f3, a3, n3⟩ := mk_new f2.tidy (pcells tb (ts ++ [(0, [], s.len)]).length 0 (rest7 (.str ⟨0, 0⟩) (.int .i64 (Int.ofNat 0)) .nils .nils .nils 0 0))
  have atl := atb.lt f2.tidy
  have x3 : Px σ3 σ2.next tb (ts ++ [(0, [], s.len)]) 0 (rest7 (.str ⟨0, 0⟩) (.int .i64 (Int.ofNat 0)) .nils .nils .nils 0 0) := by
    refine ⟨a3, f3.at_ atb f2.tidy (fun h => h), by omega, f3.tidy, by rw [hlen]; omega, ?_⟩
    intro i t hi ht0
    rw [hlen]
    by_cases hil : i < ts.length
    · omega
    · exfalso
      rw [List.getElem?_append_right (by omega)] at hi
      rcases Nat.eq_zero_or_pos (i - ts.length) with h0 | h0
      · rw [h0] at hi
        simp at hi
        subst hi
        exact ht0 rfl
      · rw [List.getElem?_eq_none (by simp; omega)] at hi
        cases hi
  have a23 := f3.at_ a2 f2.tidy (fun h => h)
  obtain ⟨σ4, nb, j', nm, n', t', g4, x4, b4, lnb, f4, hn1⟩ := hM σ3 σ2.next tb x3
  have a4 := f4.at_ a23 x3.tidy (by omega)
  have fr : Fr Nowhere σ σ4 := (((f1.trans f2 (fun _ _ h => h)).trans f3 (fun _ _ h => h)).trans f4 (fun c hc h => by have h : c = σ2.next := h; omega))
  have head : F7 [] D (drawW [] D) N [.str s] σ = condK (not r.ok) (
      gdrawK (drawW [] D G7_0 H7_0 [(2, .ptr σ.next 0), (8, .ptr σ2.next 0)] σ4) fun e25 s26 =>
      getL e25 2 fun u27 => rtPtr u27 fun b28 o29 => getL e25 3 fun u30 => rtInt .i64 u30 fun x31 => getL e25 4 fun u32 => rtInt .i64 u32 fun x33 => ldnK [] s26 b28 o29 5 fun u34 => some (.tup [.agg u34, .int .i64 x31, .int .i64 x33], s26)) (
      ldnK [] σ4 σ2.next 2 5 fun l35 => rtCons l35 fun x36 l37 => rtStr x36 fun x38 => rtCons l37 fun x39 l40 => rtInt .i64 x39 fun x41 => rtCons l40 fun x42 l43 => rtCons l43 fun x44 l45 => rtCons l45 fun x46 l47 => rtNil l47 (
      stK 5 σ.next 0 (.agg [.str x38, .int .i64 x41, x42, x44, x46]) σ4 fun s48 => ldnK [] s48 σ.next 0 5 fun u49 => some (.tup [.agg u49, .int .i64 (Int.ofNat 0), .int .i64 (Int.ofNat 0)], s48))) := by
    show T7_0 [] D (drawW [] D) s σ = _
    unfold T7_0
    show callK (D 11 [.str s] (newB σ (.cells zero5))) _ = _
    rw [e1, g2]
    simp only [callK_some_, rtTup_tup, rtCons_cons, rtInt_int, rtNil_nil]
    show condK false _ _ = _
    rw [condK_false]
    show callK (D 12 [.ptr σ2.next 0] (newB σ2 (.cells (pcells tb (ts.length + 1) 0 (rest7 (.str ⟨0, 0⟩) (.int .i64 (Int.ofNat 0)) .nils .nils .nils 0 0))))) _ = _
    rw [← hlen, e3, g4]
    simp only [callK_some_, rtBool_bool]
  rw [head]
  cases hok : r.ok with
  | false =>
    obtain ⟨env, σ5, d5, l2, l3, l4, a5, f5⟩ := reg_parse (D := D) x4 a4 (by omega)
    refine ⟨σ5, .tup [.agg zero5, .int .i64 (Int.ofNat r.a), .int .i64 (Int.ofNat r.e)], ?_, ?_, fr.trans f5 (fun c hc h => by have h : c = σ.next := h; omega)⟩
    · rw [Bool.not_false, condK_true, d5]
      show getL env 2 _ = _
      rw [getL_of l2 rfl, rtPtr_ptr, getL_of l3 rfl, rtInt_int, getL_of l4 rfl, rtInt_int, ldnK_at a5 (by show 0 + 5 ≤ 5; omega)]
      rfl
    · unfold ParseR; rw [hok]
  | true =>
    rw [Bool.not_true, condK_false, ldnK_at x4.at_ (by show 2 + 5 ≤ 9; omega)]
    have et : List.take 5 (List.drop 2 (pcells tb (ts ++ [(0, [], s.len)]).length j' (rest7 (.str nm) (.int .i64 (Int.ofNat 0)) n' t' (.sl nb 0 1 (.op 16)) r.a r.e))) = [.str nm, .int .i64 (Int.ofNat 0), n', t', .sl nb 0 1 (.op 16)] := rfl
    rw [et]
    simp only [rtCons_cons, rtStr_str, rtInt_int, rtNil_nil]
    obtain ⟨σ5, e5, f5, a5⟩ := mk_set x4.tidy a4 [.str nm, .int .i64 (Int.ofNat 0), n', t', .sl nb 0 1 (.op 16)]
    have bne : nb ≠ σ.next := by omega
    refine ⟨σ5, .tup [.agg [.str nm, .int .i64 (Int.ofNat 0), n', t', .sl nb 0 1 (.op 16)], .int .i64 (Int.ofNat 0), .int .i64 (Int.ofNat 0)], ?_, ?_, fr.trans f5 (fun c hc h => by have h : c = σ.next := h; omega)⟩
    · rw [stK_at a4 (by show (true && true && allOne [V.str nm, .int .i64 (Int.ofNat 0), n', t', .sl nb 0 1 (.op 16)]) = true; simp only [allOne, hn1.1, hn1.2]; rfl)]
      show ldnK [] (setF σ4 σ.next (.cells [.str nm, .int .i64 (Int.ofNat 0), n', t', .sl nb 0 1 (.op 16)])) σ.next 0 5 (fun u49 => some (V.tup [.agg u49, .int .i64 (Int.ofNat 0), .int .i64 (Int.ofNat 0)], setF σ4 σ.next (.cells [.str nm, .int .i64 (Int.ofNat 0), n', t', .sl nb 0 1 (.op 16)]))) = _
      rw [e5, ldnK_at a5 (by show 0 + 5 ≤ 5; omega)]
      rfl
    · unfold ParseR; rw [hok]
      exact ⟨nm, n', t', nb, rfl, f5.at_ b4 x4.tidy bne, hn1⟩
end
end
end Go.Proofs.YtjolbidcficdhaaDoor
