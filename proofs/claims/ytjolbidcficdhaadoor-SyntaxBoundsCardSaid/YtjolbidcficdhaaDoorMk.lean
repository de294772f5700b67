/- SyntaxMarks: the region in which the text is made and parsed, and what is asked of the answer. -/
import Derived.Test.YtjolbidcficdhaaDoorPq
import Derived.Test.YtjolbidcficdhaaDoorTx
set_option linter.all false
set_option maxRecDepth 100000
namespace Go.Proofs.YtjolbidcficdhaaDoor
open Go Go.Og
noncomputable section
def SpLmod (F : List V → H → Ans) : Prop := ∀ (σ : H) (t : List Nat), (∀ c ∈ t, c < 256) → t.length ≤ 1000 → F [.str (ofN t)] σ = some (.str (ofN (preT ++ t ++ [32, 69, 78, 68])), σ)
theorem preT_bd : ∀ c ∈ preT, c < 256 := by decide
theorem lmod_F (D : Den) (W : DrawFn) (N : Nat) : SpLmod (F10 [] D W N) := by
  intro σ t hb hl
  show T10_0 [] D W (ofN t) σ = _
  unfold T10_0
  rw [show (BS.mk 30 222506571868557908864840178738838794715991869943048379564569277948502093) = ofN preT from by decide +kernel, show (BS.mk 4 1145980192) = ofN [32, 69, 78, 68] from by decide +kernel]
  have hpl : preT.length = 30 := rfl
  have hb2 : ∀ c ∈ preT ++ t, c < 256 := fun c hc => by
    rcases List.mem_append.1 hc with h | h
    · exact preT_bd c h
    · exact hb c h
  rw [catK_ofN preT_bd hb (by omega), catK_ofN hb2 (by decide) (by simp; omega)]
theorem addS {a b : List Nat} (ha : ∀ c ∈ a, c < 256) (hb : ∀ c ∈ b, c < 256) (hl : a.length + b.length ≤ 1000000) : binV .add .none (.str (ofN a)) (.str (ofN b)) = some (.str (ofN (a ++ b))) := by
  show (match Nat.ble (Nat.add (ofN a).len (ofN b).len) 1000000000000 with | true => some (V.str ((ofN a).cat (ofN b))) | false => none) = _
  rw [show Nat.ble (Nat.add (ofN a).len (ofN b).len) 1000000000000 = true from ble_of (by rw [ofN_len, ofN_len]; show a.length + b.length ≤ _; omega), ofN_cat ha hb]
theorem wordT_bd (m : Nat) : (∀ c ∈ wordT m, c < 256) ∧ (wordT m).length ≤ 9 := by
  match m with
  | 0 => exact ⟨by decide, by decide⟩
  | 1 => exact ⟨by decide, by decide⟩
  | _ + 2 => exact ⟨by show ∀ c ∈ ([73, 77, 80, 76, 73, 67, 73, 84, 32] : List Nat), c < 256; decide, by show ([73, 77, 80, 76, 73, 67, 73, 84, 32] : List Nat).length ≤ 9; decide⟩
def words3 : List V := [.str ⟨0, 0⟩, .str ⟨9, 596369269913283483717⟩, .str ⟨9, 596369269913283480905⟩]
theorem words_get (m : Nat) (hm : m < 3) : words3[m]? = some (.str (ofN (wordT m))) := by
  match m, hm with
  | 0, _ => rfl
  | 1, _ => show some (V.str ⟨9, 596369269913283483717⟩) = some (V.str (ofN (wordT 1))); rw [show (BS.mk 9 596369269913283483717) = ofN (wordT 1) from by decide +kernel]
  | 2, _ => show some (V.str ⟨9, 596369269913283480905⟩) = some (V.str (ofN (wordT 2))); rw [show (BS.mk 9 596369269913283480905) = ofN (wordT 2) from by decide +kernel]
section
variable {D : Den}
theorem reg_marks (hN : SpNumber (D 9)) (hL : SpLmod (D 10)) {v : Int} (hv : In64 v) {m : Nat} (hm : m < 3) {σ : H} (ht : Tidy σ) {wb : Nat} (hw : Atc σ wb words3)
    {Q : H → V → V → V → V → V → Int → Int → Prop}
    (hP : ∀ σ, Tidy σ → ∃ σ' a b c d e pv ev, D 7 [.str (ofN (textT (numC v) m))] σ = some (.tup [.agg [a, b, c, d, e], .int .i64 pv, .int .i64 ev], σ') ∧ Q σ' a b c d e pv ev ∧ allOne [a, b, c, d, e] = true ∧ Fr Nowhere σ σ') :
    ∃ env σ' σ2 a b c d e pv ev, drawW [] D G5_0 H5_0 [(0, .int .i64 v), (1, .int .i64 (Int.ofNat m)), (5, .sl wb 0 3 (.ex 3))] σ = some (env, σ') ∧ Go.Og.look env 0 = some (.int .i64 v) ∧ Go.Og.look env 1 = some (.int .i64 (Int.ofNat m)) ∧
      Go.Og.look env 6 = some (.ptr (σ.next + 16) 0) ∧ Go.Og.look env 7 = some (.int .i64 pv) ∧ Go.Og.look env 8 = some (.int .i64 ev) ∧ Q σ2 a b c d e pv ev ∧ Atc σ' (σ.next + 16) [a, b, c, d, e] ∧ (∀ b l, Atc σ2 b l → Atc σ' b l) := by
  obtain ⟨hok, hlen, _⟩ := numC_ok hv
  have lw := hw.lt ht
  have gap := ht.gap 20
  obtain ⟨σ1, g1, f1⟩ := hN ⟨σ.next + 20, σ.bl⟩ v (ht.wide 20) hv
  have gap1 := f1.gap ht (fun b hb => hb.elim)
  have le1 : σ.next + 20 ≤ σ1.next := f1.le
  obtain ⟨σ2, a, b, c, d, e, pv, ev, g2, q2, o2, f2⟩ := hP σ1 f1.tidy
  have le2 := f2.le
  have gap2 : ∀ i, i < 20 → Go.Og.look σ2.bl (σ.next + i) = none := fun i hi => by
    have := f2.same (σ.next + i) (by omega) (fun h => h)
    rw [← lookF_eq, this, lookF_eq]
    exact gap1 _ (by omega) (by omega)
  obtain ⟨neg, ds, hwd, hds, hne, _⟩ := hok.ex
  have wbd : ∀ x ∈ numC v, x < 256 := fun x hx => by
    rw [hwd] at hx
    cases neg with
    | true =>
      rcases List.mem_cons.1 hx with rfl | hx
      · omega
      · exact hds.bd x hx
    | false => exact hds.bd x hx
  have w0 : Go.Og.look σ.bl wb = some (.cells words3) := by rw [← lookF_eq]; exact hw
  have w1 : Go.Og.look σ1.bl wb = some (.cells words3) := by
    have := f1.same wb (show wb < σ.next + 20 by omega) (fun h => h)
    rw [← lookF_eq, this]; exact hw
  obtain ⟨kb, kl⟩ := wordT_bd m
  have ld : ∀ (l : List (Nat × Blk)) (q : Nat → Bool) (nx : Nat), Go.Og.look l wb = some (.cells words3) → aopL [] (.load none (.tmp 21)) [(21, .ptr wb m)] ⟨nx, hideB σ.next 20 q l⟩ = some (.str (ofN (wordT m))) := fun l q nx hl =>
    load_of (b := wb) (off := m) rfl (by rw [look_hide_old lw]; exact hl) (words_get m hm)
  have hia : aopP (.iaddrS 1 (.tmp 19) (.tmp 20)) [(19, .sl wb 0 3 (.ex 3)), (20, .int .i64 (Int.ofNat m))] = some (.ptr wb m) := by
    show (if 0 ≤ Int.ofNat m ∧ Int.ofNat m < ((3 : Nat) : Int) then some (V.ptr wb (0 + (Int.ofNat m).toNat * 1)) else none) = _
    rw [if_pos ⟨Int.natCast_nonneg m, by show (m : Int) < _; omega⟩]
    show some (V.ptr wb (0 + m * 1)) = _
    rw [Nat.zero_add, Nat.mul_one]
  have b1 : ∀ x ∈ [91] ++ numC v, x < 256 := fun x hx => by
    rcases List.mem_append.1 hx with h | h
    · simp at h; omega
    · exact wbd x h
  have b2 : ∀ x ∈ [91] ++ numC v ++ [93, 32], x < 256 := fun x hx => by
    rcases List.mem_append.1 hx with h | h
    · exact b1 x h
    · simp at h; omega
  have b3 : ∀ x ∈ [91] ++ numC v ++ [93, 32] ++ wordT m, x < 256 := fun x hx => by
    rcases List.mem_append.1 hx with h | h
    · exact b2 x h
    · exact kb x h
  have b4 : ∀ x ∈ [91] ++ numC v ++ [93, 32] ++ wordT m ++ [78, 85, 76, 76], x < 256 := fun x hx => by
    rcases List.mem_append.1 hx with h | h
    · exact b3 x h
    · simp at h; omega
  have t1 : aopP (.bin .add .none (.con (V.str ⟨1, 91⟩)) (.tmp 16)) [(16, .str (ofN (numC v)))] = some (.str (ofN ([91] ++ numC v))) := by
    show binV .add .none (.str (ofN [91])) (.str (ofN (numC v))) = _
    exact addS (by decide) wbd (by simp; omega)
  have t2 : aopP (.bin .add .none (.tmp 17) (.con (V.str ⟨2, 8285⟩))) [(17, .str (ofN ([91] ++ numC v)))] = some (.str (ofN ([91] ++ numC v ++ [93, 32]))) := by
    show binV .add .none (.str (ofN ([91] ++ numC v))) (.str ⟨2, 8285⟩) = _
    rw [show (BS.mk 2 8285) = ofN [93, 32] from by decide +kernel]
    exact addS b1 (by decide) (by simp; omega)
  have t3 : aopP (.bin .add .none (.tmp 18) (.tmp 22)) [(18, .str (ofN ([91] ++ numC v ++ [93, 32]))), (22, .str (ofN (wordT m)))] = some (.str (ofN ([91] ++ numC v ++ [93, 32] ++ wordT m))) := addS b2 kb (by simp; omega)
  have t4 : aopP (.bin .add .none (.tmp 23) (.con (V.str ⟨4, 1280070990⟩))) [(23, .str (ofN ([91] ++ numC v ++ [93, 32] ++ wordT m)))] = some (.str (ofN ([91] ++ numC v ++ [93, 32] ++ wordT m ++ [78, 85, 76, 76]))) := by
    show binV .add .none (.str (ofN ([91] ++ numC v ++ [93, 32] ++ wordT m))) (.str ⟨4, 1280070990⟩) = _
    rw [show (BS.mk 4 1280070990) = ofN [78, 85, 76, 76] from by decide +kernel]
    exact addS b3 (by decide) (by simp; omega)
  have htx : preT ++ ([91] ++ numC v ++ [93, 32] ++ wordT m ++ [78, 85, 76, 76]) ++ [32, 69, 78, 68] = textT (numC v) m := by
    unfold textT sufT; simp
  have c10 : den1 [] D (.call 10 [.tmp 24]) [(24, .str (ofN ([91] ++ numC v ++ [93, 32] ++ wordT m ++ [78, 85, 76, 76])))] ⟨σ1.next, σ1.bl⟩ = some (.str (ofN (textT (numC v) m)), ⟨σ1.next, σ1.bl⟩) := by
    show D 10 [.str (ofN ([91] ++ numC v ++ [93, 32] ++ wordT m ++ [78, 85, 76, 76]))] σ1 = _
    rw [hL σ1 _ b4 (by simp; omega), htx]
  have c1 : den1 [] D (.call 9 [.tmp 15]) [(15, .int .i64 v)] ⟨σ.next + 20, σ.bl⟩ = some (.str (ofN (numC v)), ⟨σ1.next, σ1.bl⟩) := g1
  have c11 : den1 [] D (.call 7 [.tmp 25]) [(25, .str (ofN (textT (numC v) m)))] ⟨σ1.next, σ1.bl⟩ = some (.tup [.agg [a, b, c, d, e], .int .i64 pv, .int .i64 ev], ⟨σ2.next, σ2.bl⟩) := g2
  let z5 : Blk := .cells zero5
  let h5 : List (Nat × Blk) := (σ.next + 16, .cells [a, b, c, d, e]) :: σ2.bl
  have rep : repl ((σ.next + 16, z5) :: σ2.bl) (σ.next + 16) (.cells (spl zero5 0 (V.agg [a, b, c, d, e]).cells)) = h5 := by
    unfold repl
    rw [if_pos (Nat.beq_refl _)]
    rfl
  let env : Env := [(8, .int .i64 ev), (7, .int .i64 pv), (6, .ptr (σ.next + 16) 0), (29, .int .i64 ev), (28, .int .i64 pv), (27, .agg [a, b, c, d, e]), (14, .tup [.agg [a, b, c, d, e], .int .i64 pv, .int .i64 ev]), (26, .tup [.agg [a, b, c, d, e], .int .i64 pv, .int .i64 ev]), (25, .str (ofN (textT (numC v) m))), (24, .str (ofN ([91] ++ numC v ++ [93, 32] ++ wordT m ++ [78, 85, 76, 76]))), (23, .str (ofN ([91] ++ numC v ++ [93, 32] ++ wordT m))), (22, .str (ofN (wordT m))), (21, .ptr wb m), (20, .int .i64 (Int.ofNat m)), (19, .sl wb 0 3 (.ex 3)), (18, .str (ofN ([91] ++ numC v ++ [93, 32]))), (17, .str (ofN ([91] ++ numC v))), (16, .str (ofN (numC v))), (15, .int .i64 v), (0, .int .i64 v), (1, .int .i64 (Int.ofNat m)), (5, .sl wb 0 3 (.ex 3))]
  have fin5 : ∀ i, i < 20 → (65536 : Nat).testBit i = false → Go.Og.look h5 (σ.next + i) = none := fun i hi hq => by
    have h16 : i ≠ 16 := fun h => by subst h; revert hq; decide
    show Go.Og.look ((σ.next + 16, _) :: σ2.bl) _ = _
    rw [look_cons_ne (by omega)]; exact gap2 i hi
  refine ⟨env, ⟨σ2.next, hideB σ.next 20 (fun k => (65536 : Nat).testBit k) h5⟩, σ2, a, b, c, d, e, pv, ev, drawW_of (s := ⟨env, σ2.next, [h5, (σ.next + 16, z5) :: σ2.bl, (σ.next + 16, z5) :: σ1.bl, (σ.next + 16, z5) :: σ1.bl, (σ.next + 16, z5) :: σ.bl], [17, 11, 10, 1], 65536, [(7, .load none (.tmp 21), [(21, .ptr wb m)], .str (ofN (wordT m)))]⟩) ?_ ?_ rfl, rfl, rfl, rfl, rfl, rfl, q2, ?_, ?_⟩
  · refine (dp (.int .i64 v) rfl rfl).trans ?_
    refine (dk (.str (ofN (numC v))) σ1.next σ1.bl rfl (hide_keep (n := 20) fun i hi _ => gap _ (by omega) (by omega)) c1).trans ?_
    refine (dp (.str (ofN ([91] ++ numC v))) rfl t1).trans ?_
    refine (dp (.str (ofN ([91] ++ numC v ++ [93, 32]))) rfl t2).trans ?_
    refine (dp (.sl wb 0 3 (.ex 3)) rfl rfl).trans ?_
    refine (dp (.int .i64 (Int.ofNat m)) rfl rfl).trans ?_
    refine (dp (.ptr wb m) rfl hia).trans ?_
    refine (dl (.str (ofN (wordT m))) rfl (ld σ1.bl _ _ w1)).trans ?_
    refine (dp (.str (ofN ([91] ++ numC v ++ [93, 32] ++ wordT m))) rfl t3).trans ?_
    refine (dp (.str (ofN ([91] ++ numC v ++ [93, 32] ++ wordT m ++ [78, 85, 76, 76]))) rfl t4).trans ?_
    refine (dk (.str (ofN (textT (numC v) m))) σ1.next σ1.bl rfl (hide_keep (n := 20) fun i hi _ => gap1 _ (by omega) (by omega)) c10).trans ?_
    refine (dk (.tup [.agg [a, b, c, d, e], .int .i64 pv, .int .i64 ev]) σ2.next σ2.bl rfl (hide_keep (n := 20) fun i hi _ => gap1 _ (by omega) (by omega)) c11).trans ?_
    refine (dp (.tup [.agg [a, b, c, d, e], .int .i64 pv, .int .i64 ev]) rfl rfl).trans ?_
    refine (dp (.agg [a, b, c, d, e]) rfl rfl).trans ?_
    refine (dp (.int .i64 pv) rfl rfl).trans ?_
    refine (dp (.int .i64 ev) rfl rfl).trans ?_
    refine (da (.ptr (σ.next + 16) 0) z5 (σ.next + 16) 65536 rfl rfl (show (0 : Nat) ||| 2 ^ 16 = 65536 from by decide) rfl).trans ?_
    refine (dk .dead σ2.next h5 rfl (hide_keep (n := 20) fun i hi hq => ?_) ((store_n (b := σ.next + 16) (off := 0) (c := zero5) rfl look_cons_eq ?_).trans ?_)).trans ?_
    · have h16 : i ≠ 16 := fun h => by subst h; revert hq; decide
      show Go.Og.look ((σ.next + 16, _) :: σ2.bl) _ = _
      rw [look_cons_ne (by omega)]; exact gap2 i hi
    · show (true && true && allOne [a, b, c, d, e]) = true
      rw [o2]; rfl
    · show some (V.dead, H.mk σ2.next (repl ((σ.next + 16, z5) :: σ2.bl) (σ.next + 16) (.cells (spl zero5 0 (V.agg [a, b, c, d, e]).cells)))) = _
      rw [rep]
    refine (dp (.int .i64 pv) rfl rfl).trans ?_
    refine (dp (.int .i64 ev) rfl rfl).trans ?_
    exact dsteps_nil
  · simp only [List.all_cons, List.all_nil, Bool.and_true]
    have hb : V.beq (.str (ofN (wordT m))) (.str (ofN (wordT m))) = true := by show decide _ = true; exact decide_eq_true rfl
    rw [check_skip (by decide), check_skip (by decide), check_skip (by decide)]
    refine (check_take (ld _ _ 0 ?_) hb).trans ?_
    · rw [look_cons_ne (by omega)]; exact w1
    refine check_last (ld _ _ 0 ?_) hb
    rw [look_cons_ne (by omega)]; exact w0
  · rw [(hide_keep fin5).1]
    show lookF h5 _ = _
    rw [lookF_eq]; exact look_cons_eq
  · intro b' l hb
    have hne : b' ≠ σ.next + 16 := fun h => by
      subst h
      have := gap2 16 (by omega)
      rw [← lookF_eq, show lookF σ2.bl (σ.next + 16) = some (.cells l) from hb] at this
      cases this
    rw [(hide_keep fin5).1]
    show lookF h5 b' = _
    rw [lookF_eq, show Go.Og.look h5 b' = Go.Og.look σ2.bl b' from look_cons_ne (fun h => hne h.symm), ← lookF_eq]
    exact hb
end
end
end Go.Proofs.YtjolbidcficdhaaDoor
