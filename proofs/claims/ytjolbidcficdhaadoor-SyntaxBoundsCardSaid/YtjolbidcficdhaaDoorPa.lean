/- The region in which a name and its type are noted. -/
import Derived.Test.YtjolbidcficdhaaDoorPz
set_option linter.all false
set_option maxRecDepth 100000
namespace Go.Proofs.YtjolbidcficdhaaDoor
open Go Go.Og
noncomputable section
theorem store_of {D : Den} {x v : AO} {e : Env} {b off nx : Nat} {h : List (Nat × Blk)} {c : List V} (hx : opv e x = .ptr b off) (hl : Go.Og.look h b = some (.cells c)) (hc : (Nat.beq (opv e v).cells.length 1 && Nat.ble (off + 1) c.length && allOne (opv e v).cells) = true) :
    den1 [] D (.store 1 x v) e ⟨nx, h⟩ = some (.dead, ⟨nx, repl h b (.cells (spl c off (opv e v).cells))⟩) := by
  show aop [] (.store 1 x v) e ⟨nx, h⟩ = _
  show aopK [] (.store 1 x v) e ⟨nx, h⟩ = _
  unfold aopK
  simp only [hx, hl]
  rw [if_pos hc]
  rfl
theorem app_of {D : Den} {el esz bytes : Nat} {s x : AO} {e : Env} {xb nx : Nat} {h : List (Nat × Blk)} {c : List V} (hs : opv e s = .nils) (hx : opv e x = .sl xb 0 1 (.ex 1)) (hl : Go.Og.look h xb = some (.cells c)) (hc : c.length = esz) (hg : growable 1 bytes = true) :
    den1 [] D (.append el esz bytes s x) e ⟨nx, h⟩ = some (.sl nx 0 1 (.op esz), ⟨nx + 1, (nx, .cells c) :: h⟩) := by
  show aopK [] (.append el esz bytes s x) e ⟨nx, h⟩ = _
  unfold aopK
  simp only [hs, hx]
  unfold appendV
  have hsc : srcCells [] ⟨nx, h⟩ esz (.sl xb 0 1 (.ex 1)) = some (1, c) := by
    show (rdN [] ⟨nx, h⟩ xb 0 (1 * esz)).map _ = _
    unfold rdN rd
    simp only [hl]
    rw [show Nat.ble (0 + 1 * esz) c.length = true from ble_of (by omega)]
    simp only [if_true, Option.map_some, List.drop_zero]
    rw [List.take_of_length_le (by omega)]
  rw [hsc]
  simp only []
  rw [if_neg (by decide), hg]
  rfl
section
variable {D : Den}
theorem reg_assign {σ : H} {p tb j a e kb : Nat} {ts : List Tk} {v0 v1 v4 : V} {nm : BS} {k at_ : Int} (h : Px σ p tb ts j (rest7 v0 v1 .nils .nils v4 a e)) (hk : Atc σ kb [.int .i64 k, .str nm, .int .i64 at_]) (hne : kb ≠ p) (x : Int) (b : Bool) :
    ∃ env σ' n' t', drawW [] D G24_0 H24_0 [(0, .ptr p 0), (3, .ptr kb 0), (4, .int .i64 x), (5, .bool b)] σ = some (env, σ') ∧ Go.Og.look env 5 = some (.bool b) ∧ Px σ' p tb ts j (rest7 v0 v1 n' t' v4 a e) ∧ Fr (fun c => c = p) σ σ' ∧ n'.one = true ∧ t'.one = true := by
  have lp := h.lt; have lk := hk.lt h.tidy
  have ltb := h.tlt
  have gap := h.tidy.gap 27
  have p0 : Go.Og.look σ.bl p = some (.cells (pcells tb ts.length j (rest7 v0 v1 .nils .nils v4 a e))) := by rw [← lookF_eq]; exact h.at_
  have k0 : Go.Og.look σ.bl kb = some (.cells [.int .i64 k, .str nm, .int .i64 at_]) := by rw [← lookF_eq]; exact hk
  let c9 : Blk := .cells [.str nm]
  let c17 : Blk := .cells [.int .i64 x]
  let l1 : List (Nat × Blk) := (σ.next + 9, c9) :: σ.bl
  let h1 : List (Nat × Blk) := (σ.next + 27, c9) :: l1
  let l2 : List (Nat × Blk) := (σ.next + 17, c17) :: h1
  let h2 : List (Nat × Blk) := (σ.next + 28, c17) :: l2
  let m1 : List V := pcells tb ts.length j (rest7 v0 v1 (.sl (σ.next + 27) 0 1 (.op 1)) .nils v4 a e)
  let m2 : List V := pcells tb ts.length j (rest7 v0 v1 (.sl (σ.next + 27) 0 1 (.op 1)) (.sl (σ.next + 28) 0 1 (.op 1)) v4 a e)
  let h3 : List (Nat × Blk) := repl h2 p (.cells m1)
  let h4 : List (Nat × Blk) := repl h3 p (.cells m2)
  have p1 : Go.Og.look h1 p = some (.cells (pcells tb ts.length j (rest7 v0 v1 .nils .nils v4 a e))) := by
    show Go.Og.look ((σ.next + 27, c9) :: (σ.next + 9, c9) :: σ.bl) p = _
    rw [look_cons_ne (by omega), look_cons_ne (by omega)]; exact p0
  have p2 : Go.Og.look h2 p = some (.cells (pcells tb ts.length j (rest7 v0 v1 .nils .nils v4 a e))) := by
    show Go.Og.look ((σ.next + 28, c17) :: (σ.next + 17, c17) :: h1) p = _
    rw [look_cons_ne (by omega), look_cons_ne (by omega)]; exact p1
  have p3 : Go.Og.look h3 p = some (.cells m1) := by show Go.Og.look (repl h2 p _) p = _; rw [look_repl' p2, if_pos rfl]
  have other2 : ∀ id, id < σ.next → Go.Og.look h2 id = Go.Og.look σ.bl id := fun id hid => by
    show Go.Og.look ((σ.next + 28, c17) :: (σ.next + 17, c17) :: (σ.next + 27, c9) :: (σ.next + 9, c9) :: σ.bl) id = _
    rw [look_cons_ne (by omega), look_cons_ne (by omega), look_cons_ne (by omega), look_cons_ne (by omega)]
  have l4 : ∀ id, Go.Og.look h4 id = if p = id then some (.cells m2) else Go.Og.look h2 id := fun id => by
    show Go.Og.look (repl h3 p _) id = _
    rw [look_repl' p3]
    by_cases hp : p = id
    · rw [if_pos hp, if_pos hp]
    · rw [if_neg hp, if_neg hp]
      show Go.Og.look (repl h2 p _) id = _
      rw [look_repl' p2, if_neg hp]
  have l3 : ∀ id, p ≠ id → Go.Og.look h3 id = Go.Og.look h2 id := fun id hp => by
    show Go.Og.look (repl h2 p _) id = _
    rw [look_repl' p2, if_neg hp]
  have n1 : ∀ i, i < 27 → i ≠ 9 → Go.Og.look l1 (σ.next + i) = none := fun i hi h9 => by
    show Go.Og.look ((σ.next + 9, c9) :: σ.bl) _ = _
    rw [look_cons_ne (by omega)]
    exact gap _ (by omega) (by omega)
  have n2 : ∀ i, i < 27 → i ≠ 9 → i ≠ 17 → Go.Og.look h2 (σ.next + i) = none := fun i hi h9 h17 => by
    show Go.Og.look ((σ.next + 28, c17) :: (σ.next + 17, c17) :: (σ.next + 27, c9) :: l1) _ = _
    rw [look_cons_ne (by omega), look_cons_ne (by omega), look_cons_ne (by omega)]
    exact n1 i hi h9
  have n2' : ∀ i, i < 27 → i ≠ 9 → i ≠ 17 → Go.Og.look l2 (σ.next + i) = none := fun i hi h9 h17 => by
    show Go.Og.look ((σ.next + 17, c17) :: (σ.next + 27, c9) :: l1) _ = _
    rw [look_cons_ne (by omega), look_cons_ne (by omega)]
    exact n1 i hi h9
  have n3 : ∀ i, i < 27 → i ≠ 9 → i ≠ 17 → Go.Og.look h3 (σ.next + i) = none := fun i hi h9 h17 => by
    rw [l3 _ (by omega)]; exact n2 i hi h9 h17
  have n4 : ∀ i, i < 27 → i ≠ 9 → i ≠ 17 → Go.Og.look h4 (σ.next + i) = none := fun i hi h9 h17 => by
    rw [l4, if_neg (by omega)]; exact n2 i hi h9 h17
  have two : ∀ (q : Nat → Bool) (l : List (Nat × Blk)), q 9 = true → q 17 = true → (∀ i, i < 27 → i ≠ 9 → i ≠ 17 → Go.Og.look l (σ.next + i) = none) → hideB σ.next 27 q l = l ∧ keepB σ.next 27 q l = [] := fun q l q9 q17 hl =>
    hide_keep fun i hi hq => hl i hi (fun h => by rw [h, q9] at hq; cases hq) (fun h => by rw [h, q17] at hq; cases hq)
  have ld : ∀ (l : List (Nat × Blk)) (q : Nat → Bool) (nx off : Nat) (v : V) (y : Nat), Go.Og.look l p = some (.cells (pcells tb ts.length j (rest7 v0 v1 .nils .nils v4 a e))) → (pcells tb ts.length j (rest7 v0 v1 .nils .nils v4 a e))[off]? = some v →
      aopL [] (.load none (.tmp y)) [(y, .ptr p off)] ⟨nx, hideB σ.next 27 q l⟩ = some v := fun l q nx off v y hl hv =>
    load_of (b := p) (off := off) (by show getE [(y, V.ptr p off)] y = _; simp [getE, Go.Og.look]) (by rw [look_hide_old lp]; exact hl) hv
  have ldk : ∀ (q : Nat → Bool) (nx : Nat), aopL [] (.load none (.tmp 37)) [(37, .ptr kb 1)] ⟨nx, hideB σ.next 27 q σ.bl⟩ = some (.str nm) := fun q nx =>
    load_of (b := kb) (off := 1) rfl (by rw [look_hide_old lk]; exact k0) rfl
  let env : Env := [(54, .ptr p 5), (53, .ptr p 2), (52, .ptr p 0), (51, .ptr p 4), (50, .ptr p 2), (49, .ptr p 0), (48, .sl (σ.next + 28) 0 1 (.op 1)), (47, .sl (σ.next + 17) 0 1 (.ex 1)), (46, .int .i64 x), (45, .nils), (44, .ptr p 5), (43, .ptr p 2), (42, .ptr p 0), (41, .ptr p 0), (40, .sl (σ.next + 27) 0 1 (.op 1)), (39, .sl (σ.next + 9) 0 1 (.ex 1)), (38, .str nm), (37, .ptr kb 1), (36, .nils), (35, .ptr p 4), (34, .ptr p 2), (33, .ptr p 0), (32, .ptr p 0), (31, .ptr p 0), (30, .ptr p 0), (0, .ptr p 0), (3, .ptr kb 0), (4, .int .i64 x), (5, .bool b)]
  refine ⟨env, ⟨σ.next + 29, hideB σ.next 27 (fun k => (131584 : Nat).testBit k) h4⟩, .sl (σ.next + 27) 0 1 (.op 1), .sl (σ.next + 28) 0 1 (.op 1), drawW_of (s := ⟨env, σ.next + 29, [h4, h3, h2, l2, (σ.next + 17, c17) :: l1], [26, 22, 18, 10], 131584, [(15, .load none (.tmp 44), [(44, .ptr p 5)], .nils), (8, .load none (.tmp 37), [(37, .ptr kb 1)], .str nm), (6, .load none (.tmp 35), [(35, .ptr p 4)], .nils)]⟩) ?_ ?_ rfl, ?_, ?_, ?_, rfl, rfl⟩
  · refine (dp (.ptr p 0) rfl rfl).trans ?_
    refine (dp (.ptr p 0) rfl rfl).trans ?_
    refine (dp (.ptr p 0) rfl rfl).trans ?_
    refine (dp (.ptr p 0) rfl rfl).trans ?_
    refine (dp (.ptr p 2) rfl rfl).trans ?_
    refine (dp (.ptr p 4) rfl rfl).trans ?_
    refine (dl .nils rfl (ld σ.bl _ _ 4 .nils 35 p0 rfl)).trans ?_
    refine (dp (.ptr kb 1) rfl rfl).trans ?_
    refine (dl (.str nm) rfl (ldk _ _)).trans ?_
    refine (da (.sl (σ.next + 9) 0 1 (.ex 1)) c9 (σ.next + 9) 512 rfl rfl (show (0 : Nat) ||| 2 ^ 9 = 512 from by decide) rfl).trans ?_
    refine (dk (.sl (σ.next + 27) 0 1 (.op 1)) (σ.next + 28) h1 rfl (hide_keep fun i hi hq => n1 i hi fun h => by subst h; revert hq; decide) (app_of (xb := σ.next + 9) rfl rfl look_cons_eq rfl (by decide))).trans ?_
    refine (dp (.ptr p 0) rfl rfl).trans ?_
    refine (dp (.ptr p 0) rfl rfl).trans ?_
    refine (dp (.ptr p 2) rfl rfl).trans ?_
    refine (dp (.ptr p 5) rfl rfl).trans ?_
    refine (dl .nils rfl (ld h1 _ _ 5 .nils 44 p1 rfl)).trans ?_
    refine (dp (.int .i64 x) rfl rfl).trans ?_
    refine (da (.sl (σ.next + 17) 0 1 (.ex 1)) c17 (σ.next + 17) 131584 rfl rfl (show (512 : Nat) ||| 2 ^ 17 = 131584 from by decide) rfl).trans ?_
    refine (dk (.sl (σ.next + 28) 0 1 (.op 1)) (σ.next + 29) h2 rfl (two _ l2 (by decide) (by decide) n2') (app_of (xb := σ.next + 17) rfl rfl look_cons_eq rfl (by decide))).trans ?_
    refine (dp (.ptr p 0) rfl rfl).trans ?_
    refine (dp (.ptr p 2) rfl rfl).trans ?_
    refine (dp (.ptr p 4) rfl rfl).trans ?_
    refine (dk .dead (σ.next + 29) h3 rfl (two _ h2 (by decide) (by decide) n2) (store_of (b := p) (off := 4) rfl p2 rfl)).trans ?_
    refine (dp (.ptr p 0) rfl rfl).trans ?_
    refine (dp (.ptr p 2) rfl rfl).trans ?_
    refine (dp (.ptr p 5) rfl rfl).trans ?_
    refine (dk .dead (σ.next + 29) h4 rfl (two _ h3 (by decide) (by decide) n3) (store_of (b := p) (off := 5) rfl p3 rfl)).trans ?_
    exact dsteps_nil
  · simp only [List.all_cons, List.all_nil, Bool.and_true, Bool.and_eq_true]
    refine ⟨?_, ?_, ?_⟩
    · rw [check_skip (by decide), check_skip (by decide), check_skip (by decide)]
      refine (check_take (ld l2 _ 0 5 .nils 44 (by show Go.Og.look ((σ.next + 17, c17) :: h1) p = _; rw [look_cons_ne (by omega)]; exact p1) rfl) rfl).trans ?_
      exact check_last (ld _ _ 0 5 .nils 44 (by show Go.Og.look ((σ.next + 17, c17) :: (σ.next + 9, c9) :: σ.bl) p = _; rw [look_cons_ne (by omega), look_cons_ne (by omega)]; exact p0) rfl) rfl
    · rw [check_skip (by decide), check_skip (by decide), check_skip (by decide), check_skip (by decide)]
      refine check_last (load_of (b := kb) (off := 1) (c := [.int .i64 k, .str nm, .int .i64 at_]) rfl ?_ rfl) (by show decide _ = true; exact decide_eq_true rfl)
      rw [look_hide_old lk]
      show Go.Og.look ((σ.next + 17, c17) :: (σ.next + 9, c9) :: σ.bl) kb = _
      rw [look_cons_ne (by omega), look_cons_ne (by omega)]; exact k0
    · rw [check_skip (by decide), check_skip (by decide), check_skip (by decide), check_skip (by decide)]
      exact check_last (ld _ _ 0 4 .nils 35 (by show Go.Og.look ((σ.next + 17, c17) :: (σ.next + 9, c9) :: σ.bl) p = _; rw [look_cons_ne (by omega), look_cons_ne (by omega)]; exact p0) rfl) rfl
  · rfl
  · have hh := (two (fun k => (131584 : Nat).testBit k) h4 (by decide) (by decide) n4).1
    rw [hh]
    refine ⟨?_, ?_, h.ne, ?_, h.big, h.last⟩
    · show lookF h4 p = _
      rw [lookF_eq, l4, if_pos rfl]
    · show lookF h4 tb = _
      rw [lookF_eq, l4, if_neg (fun hh => h.ne hh.symm), other2 _ ltb, ← lookF_eq]; exact h.tok
    · intro b' hb'
      have hb' : σ.next + 29 ≤ b' := hb'
      show lookF h4 b' = none
      rw [lookF_eq, l4, if_neg (by omega)]
      show Go.Og.look ((σ.next + 28, c17) :: (σ.next + 17, c17) :: (σ.next + 27, c9) :: (σ.next + 9, c9) :: σ.bl) b' = _
      rw [look_cons_ne (by omega), look_cons_ne (by omega), look_cons_ne (by omega), look_cons_ne (by omega), ← lookF_eq]
      exact h.tidy b' (by omega)
  · have hh := (two (fun k => (131584 : Nat).testBit k) h4 (by decide) (by decide) n4).1
    rw [hh]
    refine ⟨fun b' hb' => ?_, by show σ.next ≤ σ.next + 29; omega, fun b' hb' hn => ?_⟩
    · have hb' : σ.next + 29 ≤ b' := hb'
      show lookF h4 b' = none
      rw [lookF_eq, l4, if_neg (by omega)]
      show Go.Og.look ((σ.next + 28, c17) :: (σ.next + 17, c17) :: (σ.next + 27, c9) :: (σ.next + 9, c9) :: σ.bl) b' = _
      rw [look_cons_ne (by omega), look_cons_ne (by omega), look_cons_ne (by omega), look_cons_ne (by omega), ← lookF_eq]
      exact h.tidy b' (by omega)
    · show lookF h4 b' = _
      rw [lookF_eq, l4, if_neg (fun hh => hn hh.symm), other2 _ hb', ← lookF_eq]
end
end
end Go.Proofs.YtjolbidcficdhaaDoor
