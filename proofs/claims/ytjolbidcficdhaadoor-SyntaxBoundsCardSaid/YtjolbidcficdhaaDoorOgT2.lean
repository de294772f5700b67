/- Rules for regions whose order is open and that make blocks: one operation after the other. Plain lemmas, no program. -/
import Derived.Test.YtjolbidcficdhaaDoorOgT
set_option linter.all false
namespace Go.Og
noncomputable section
section
variable {E : List (Nat × Blk)} {D : Den} {n0 n i : Nat} {o : AOper} {l : List AOper} {p : DP} {pl : List DP} {s : DS} {v : V}
theorem dsteps_p (hg : o.guard = none) (hc : o.op.cls = .p) (hv : aopP o.op (restr p.looks s.e) = some v) :
    dsteps E D n0 n i (o :: l) (p :: pl) s = dsteps E D n0 n (i + 1) l pl { s with e := putE s.e o.dst v } := by
  have h : dstep E D n0 n i o p s = some { s with e := putE s.e o.dst v } := by unfold dstep; rw [hg]; simp only [wantedA, hc, hv]
  show (match dstep E D n0 n i o p s with | none => none | some s' => dsteps E D n0 n (i + 1) l pl s') = _
  rw [h]
theorem dsteps_l {h : List (Nat × Blk)} {ss : List (List (Nat × Blk))} (hg : o.guard = none) (hc : o.op.cls = .l) (hs : s.ss = h :: ss) (hv : aopL E o.op (restr p.looks s.e) ⟨s.nx, hideB n0 n (visK p.anc s.am) h⟩ = some v) :
    dsteps E D n0 n i (o :: l) (p :: pl) s = dsteps E D n0 n (i + 1) l pl { s with e := putE s.e o.dst v, ls := (i, o.op, restr p.looks s.e, v) :: s.ls } := by
  have h : dstep E D n0 n i o p s = some { s with e := putE s.e o.dst v, ls := (i, o.op, restr p.looks s.e, v) :: s.ls } := by unfold dstep; rw [hg]; simp only [wantedA, hc, hs, hv]
  show (match dstep E D n0 n i o p s with | none => none | some s' => dsteps E D n0 n (i + 1) l pl s') = _
  rw [h]
theorem dsteps_a {b : Blk} (hg : o.guard = none) (hc : o.op.cls = .a) (hv : aopA o.op (restr p.looks s.e) (n0 + i) = some (v, b)) :
    dsteps E D n0 n i (o :: l) (p :: pl) s = dsteps E D n0 n (i + 1) l pl { s with e := putE s.e o.dst v, ss := s.ss.map ((n0 + i, b) :: ·), am := s.am ||| 2 ^ i } := by
  have h : dstep E D n0 n i o p s = some { s with e := putE s.e o.dst v, ss := s.ss.map ((n0 + i, b) :: ·), am := s.am ||| 2 ^ i } := by unfold dstep; rw [hg]; simp only [wantedA, hc, hv]
  show (match dstep E D n0 n i o p s with | none => none | some s' => dsteps E D n0 n (i + 1) l pl s') = _
  rw [h]
theorem dsteps_a' {b : Blk} {id am' : Nat} (hg : o.guard = none) (hc : o.op.cls = .a) (hid : n0 + i = id) (ham : s.am ||| 2 ^ i = am') (hv : aopA o.op (restr p.looks s.e) id = some (v, b)) :
    dsteps E D n0 n i (o :: l) (p :: pl) s = dsteps E D n0 n (i + 1) l pl { s with e := putE s.e o.dst v, ss := s.ss.map ((id, b) :: ·), am := am' } := by
  subst hid; subst ham
  exact dsteps_a hg hc hv
theorem dsteps_k {h : List (Nat × Blk)} {ss : List (List (Nat × Blk))} {σ' : H} (hg : o.guard = none) (hc : o.op.cls = .k) (hs : s.ss = h :: ss) (hv : den1 E D o.op (restr p.looks s.e) ⟨s.nx, hideB n0 n (visK p.anc s.am) h⟩ = some (v, σ')) :
    dsteps E D n0 n i (o :: l) (p :: pl) s = dsteps E D n0 n (i + 1) l pl { s with e := putE s.e o.dst v, nx := σ'.next, ss := (keepB n0 n (visK p.anc s.am) h ++ σ'.bl) :: s.ss, ks := i :: s.ks } := by
  have h : dstep E D n0 n i o p s = some { s with e := putE s.e o.dst v, nx := σ'.next, ss := (keepB n0 n (visK p.anc s.am) h ++ σ'.bl) :: s.ss, ks := i :: s.ks } := by unfold dstep; rw [hg]; simp only [wantedA, hc, hs, hv]
  show (match dstep E D n0 n i o p s with | none => none | some s' => dsteps E D n0 n (i + 1) l pl s') = _
  rw [h]
theorem dsteps_nil : dsteps E D n0 n i [] pl s = some s := by cases pl <;> rfl
theorem drawW_of {ops : List AOper} {e : Env} {σ : H} {h : List (Nat × Blk)} {ss : List (List (Nat × Blk))} (hd : dsteps E D σ.next ops.length 0 ops pl ⟨e, σ.next + ops.length, [σ.bl], [], 0, []⟩ = some s)
    (hl : s.ls.all (fun (j, op, em, v) => checkL E σ.next ops.length pl s.am j op em v s.ss s.ks []) = true) (hs : s.ss = h :: ss) :
    drawW E D ops pl e σ = some (s.e, ⟨s.nx, hideB σ.next ops.length (fun k => s.am.testBit k) h⟩) := by
  unfold drawW
  rw [hd]
  show (if s.ls.all (fun (j, op, em, v) => checkL E σ.next ops.length pl s.am j op em v s.ss s.ks []) = true then _ else none) = _
  rw [if_pos hl, hs]
end

section
variable {E : List (Nat × Blk)} {n0 n am j : Nat} {pl : List DP} {op : AOp} {em : Env} {v : V} {h : List (Nat × Blk)} {ss : List (List (Nat × Blk))} {k : Nat} {ks more : List Nat}
theorem check_skip (hl : legal pl j (k :: ks) more = false) : checkL E n0 n pl am j op em v (h :: ss) (k :: ks) more = checkL E n0 n pl am j op em v ss ks (k :: more) := by
  show ((!legal pl j (k :: ks) more || _) && checkL E n0 n pl am j op em v ss ks (k :: more)) = _
  rw [hl]; rfl
theorem check_take (hv : aopL E op em ⟨0, hideB n0 n (visK (pl.getD j ⟨0, []⟩).anc am) h⟩ = some v) (hb : V.beq v v = true) : checkL E n0 n pl am j op em v (h :: ss) (k :: ks) more = checkL E n0 n pl am j op em v ss ks (k :: more) := by
  show ((!legal pl j (k :: ks) more || (match aopL E op em ⟨0, hideB n0 n (visK (pl.getD j ⟨0, []⟩).anc am) h⟩ with | some u => V.beq u v | none => false)) && checkL E n0 n pl am j op em v ss ks (k :: more)) = _
  rw [hv]
  simp only [hb, Bool.or_true, Bool.true_and]
theorem check_last (hv : aopL E op em ⟨0, hideB n0 n (visK (pl.getD j ⟨0, []⟩).anc am) h⟩ = some v) (hb : V.beq v v = true) : checkL E n0 n pl am j op em v (h :: ss) [] more = true := by
  show ((!legal pl j [] more || (match aopL E op em ⟨0, hideB n0 n (visK (pl.getD j ⟨0, []⟩).anc am) h⟩ with | some u => V.beq u v | none => false)) && true) = _
  rw [hv]
  simp only [hb, Bool.or_true, Bool.true_and]
end
/-! ### which blocks are there -/
section
variable {n0 n : Nat} {p : Nat → Bool} {l : List (Nat × Blk)}
theorem hideB_id : ∀ {l : List (Nat × Blk)}, (∀ id, n0 ≤ id → id < n0 + n → look l id = none) → hideB n0 n p l = l
  | [], _ => rfl
  | (k, b) :: l, h => by
    have hk : ¬ (n0 ≤ k ∧ k < n0 + n) := fun ⟨h1, h2⟩ => by
      have := h k h1 h2
      simp [look] at this
    have hc : (Nat.ble n0 k && Nat.blt k (n0 + n) && !p (k - n0)) = false := by
      cases hb : (Nat.ble n0 k && Nat.blt k (n0 + n) && !p (k - n0)) with
      | false => rfl
      | true => simp only [Bool.and_eq_true, Nat.ble_eq, Nat.blt_eq] at hb; exact (hk hb.1).elim
    unfold hideB
    rw [hc]
    simp only [Bool.false_eq_true, if_false]
    rw [hideB_id]
    intro id h1 h2
    have := h id h1 h2
    simp only [look] at this
    split at this
    · cases this
    · exact this
theorem keepB_id : ∀ {l : List (Nat × Blk)}, (∀ id, n0 ≤ id → id < n0 + n → look l id = none) → keepB n0 n p l = []
  | [], _ => rfl
  | (k, b) :: l, h => by
    have hk : ¬ (n0 ≤ k ∧ k < n0 + n) := fun ⟨h1, h2⟩ => by
      have := h k h1 h2
      simp [look] at this
    have hc : (Nat.ble n0 k && Nat.blt k (n0 + n) && !p (k - n0)) = false := by
      cases hb : (Nat.ble n0 k && Nat.blt k (n0 + n) && !p (k - n0)) with
      | false => rfl
      | true => simp only [Bool.and_eq_true, Nat.ble_eq, Nat.blt_eq] at hb; exact (hk hb.1).elim
    unfold keepB
    rw [hc]
    simp only [Bool.false_eq_true, if_false]
    rw [keepB_id]
    intro id h1 h2
    have := h id h1 h2
    simp only [look] at this
    split at this
    · cases this
    · exact this
theorem hide_keep : ∀ {l : List (Nat × Blk)}, (∀ i, i < n → p i = false → look l (n0 + i) = none) → hideB n0 n p l = l ∧ keepB n0 n p l = []
  | [], _ => ⟨rfl, rfl⟩
  | (k, b) :: l, h => by
    have hc : (Nat.ble n0 k && Nat.blt k (n0 + n) && !p (k - n0)) = false := by
      cases hb : (Nat.ble n0 k && Nat.blt k (n0 + n) && !p (k - n0)) with
      | false => rfl
      | true =>
        exfalso
        simp only [Bool.and_eq_true, Nat.ble_eq, Nat.blt_eq, Bool.not_eq_true'] at hb
        have := h (k - n0) (by omega) hb.2
        rw [show n0 + (k - n0) = k by omega] at this
        simp [look] at this
    have ih := hide_keep (l := l) (fun i hi hp => by
      have := h i hi hp
      simp only [look] at this
      split at this
      · cases this
      · exact this)
    unfold hideB keepB
    rw [hc]
    simp only [Bool.false_eq_true, if_false]
    exact ⟨by rw [ih.1], ih.2⟩
theorem Tidy.gap {σ : H} (h : Tidy σ) (n : Nat) : ∀ id, σ.next ≤ id → id < σ.next + n → look σ.bl id = none := fun id h1 _ => by
  have := h id h1; rwa [lookF_eq] at this
theorem Tidy.wide {σ : H} (h : Tidy σ) (n : Nat) : Tidy ⟨σ.next + n, σ.bl⟩ := fun b hb => h b (by have : σ.next + n ≤ b := hb; omega)
theorem Fr.wide {S : Nat → Prop} {σ σ' : H} {n : Nat} (f : Fr S ⟨σ.next + n, σ.bl⟩ σ') : Fr S σ σ' :=
  ⟨f.tidy, by have : σ.next + n ≤ σ'.next := f.le; omega, fun b hb hn => f.same b (show b < σ.next + n by omega) hn⟩
theorem Fr.gap {S : Nat → Prop} {σ σ' : H} {n : Nat} (f : Fr S ⟨σ.next + n, σ.bl⟩ σ') (ht : Tidy σ) (hS : ∀ b, S b → b < σ.next) : ∀ id, σ.next ≤ id → id < σ.next + n → look σ'.bl id = none := fun id h1 h2 => by
  have := f.same id h2 (fun hs => by have := hS id hs; omega)
  rw [← lookF_eq, this]
  exact ht id h1
theorem look_hide_old {id : Nat} (h : id < n0) : look (hideB n0 n p l) id = look l id := by
  rw [look_hideB, if_neg (by omega)]
theorem look_hide_kept {i : Nat} (h : p i = true) : look (hideB n0 n p l) (n0 + i) = look l (n0 + i) := by
  rw [look_hideB, if_neg]
  rintro ⟨_, _, h2⟩
  rw [Nat.add_sub_cancel_left, h] at h2
  cases h2
theorem look_hide_new {id : Nat} (h : n0 + n ≤ id) : look (hideB n0 n p l) id = look l id := by
  rw [look_hideB, if_neg (by omega)]
theorem look_hide_none {id : Nat} (h : look l id = none) : look (hideB n0 n p l) id = none := by
  rw [look_hideB]; split
  · rfl
  · exact h
theorem look_cons_ne {α : Type} {k id : Nat} {b : α} {l : List (Nat × α)} (h : k ≠ id) : look ((k, b) :: l) id = look l id := by simp [look, h]
theorem look_cons_eq {α : Type} {k : Nat} {b : α} {l : List (Nat × α)} : look ((k, b) :: l) k = some b := by simp [look]
theorem load_of {E : List (Nat × Blk)} {x : AO} {e : Env} {b off nx : Nat} {h : List (Nat × Blk)} {c : List V} {v : V} (hx : opv e x = .ptr b off) (hl : look h b = some (.cells c)) (hv : c[off]? = some v) :
    aopL E (.load none x) e ⟨nx, h⟩ = some v := by
  unfold aopL
  simp only [hx, rd, hl, hv]
end
/-! ### the same, by the parts of what is held -/
section
variable {E : List (Nat × Blk)} {D : Den} {n0 n i : Nat} {d : Option Nat} {o : AOp} {l : List AOper} {anc : Nat} {lk : List Nat} {pl : List DP} {e : Env} {nx am : Nat} {ss : List (List (Nat × Blk))} {h : List (Nat × Blk)} {ks : List Nat} {ls : List (Nat × AOp × Env × V)}
theorem dp (v : V) (hc : o.cls = .p) (hv : aopP o (restr lk e) = some v) : dsteps E D n0 n i (⟨d, o, none⟩ :: l) (⟨anc, lk⟩ :: pl) ⟨e, nx, ss, ks, am, ls⟩ = dsteps E D n0 n (i + 1) l pl ⟨putE e d v, nx, ss, ks, am, ls⟩ :=
  dsteps_p rfl hc hv
theorem dl (v : V) (hc : o.cls = .l) (hv : aopL E o (restr lk e) ⟨nx, hideB n0 n (visK anc am) h⟩ = some v) : dsteps E D n0 n i (⟨d, o, none⟩ :: l) (⟨anc, lk⟩ :: pl) ⟨e, nx, h :: ss, ks, am, ls⟩ = dsteps E D n0 n (i + 1) l pl ⟨putE e d v, nx, h :: ss, ks, am, (i, o, restr lk e, v) :: ls⟩ :=
  dsteps_l rfl hc rfl hv
theorem da (v : V) (b : Blk) (id am' : Nat) (hc : o.cls = .a) (hid : n0 + i = id) (ham : am ||| 2 ^ i = am') (hv : aopA o (restr lk e) id = some (v, b)) : dsteps E D n0 n i (⟨d, o, none⟩ :: l) (⟨anc, lk⟩ :: pl) ⟨e, nx, ss, ks, am, ls⟩ = dsteps E D n0 n (i + 1) l pl ⟨putE e d v, nx, ss.map ((id, b) :: ·), ks, am', ls⟩ :=
  dsteps_a' rfl hc hid ham hv
theorem dk (v : V) (nx' : Nat) (bl' : List (Nat × Blk)) (hc : o.cls = .k) (hk : hideB n0 n (visK anc am) h = h ∧ keepB n0 n (visK anc am) h = []) (hv : den1 E D o (restr lk e) ⟨nx, h⟩ = some (v, ⟨nx', bl'⟩)) : dsteps E D n0 n i (⟨d, o, none⟩ :: l) (⟨anc, lk⟩ :: pl) ⟨e, nx, h :: ss, ks, am, ls⟩ = dsteps E D n0 n (i + 1) l pl ⟨putE e d v, nx', bl' :: h :: ss, i :: ks, am, ls⟩ := by
  have := dsteps_k (E := E) (D := D) (n0 := n0) (n := n) (i := i) (o := ⟨d, o, none⟩) (l := l) (p := ⟨anc, lk⟩) (pl := pl) (s := ⟨e, nx, h :: ss, ks, am, ls⟩) (v := v) (σ' := ⟨nx', bl'⟩) rfl hc rfl (by show den1 E D o (restr lk e) ⟨nx, hideB n0 n (visK anc am) h⟩ = _; rw [hk.1]; exact hv)
  rw [this]
  show dsteps E D n0 n (i + 1) l pl ⟨putE e d v, nx', (keepB n0 n (visK anc am) h ++ bl') :: h :: ss, i :: ks, am, ls⟩ = _
  rw [hk.2]; rfl
end
end
end Go.Og
