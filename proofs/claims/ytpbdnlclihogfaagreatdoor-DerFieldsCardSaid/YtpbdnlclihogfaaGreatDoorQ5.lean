/- What the last text leans on, part 6 of 7: merged out of smaller texts. No condition. -/
import Derived.Deep.Slices
import Derived.Carry
import Derived.KernelRfl
import Derived.Test.YtpbdnlclihogfaaGreatDoorQ4
set_option linter.all false
namespace Go.Og
noncomputable section
section
variable {E : List (Nat × Blk)} {D : Den} {n0 n i : Nat} {o : AOper} {l : List AOper} {p : DP} {pl : List DP} {s : DS} {v : V}
theorem dsteps_p (hg : o.guard = none) (hc : o.op.cls = .p) (hv : aopP o.op (restr p.looks s.e) = some v) :
    dsteps E D n0 n i (o :: l) (p :: pl) s = dsteps E D n0 n (i + 1) l pl { s with e := putE s.e o.dst v } := by
  have h : dstep E D n0 n i o p s = some { s with e := putE s.e o.dst v } := by unfold dstep; rw [hg]; simp only [wantedA, hc, hv]
  show (match dstep E D n0 n i o p s with | none => none | some s' => dsteps E D n0 n (i + 1) l pl s') = _
  rw [h]
theorem dsteps_l {h : List (Nat × Blk)} {ss : List (List (Nat × Blk))} (hg : o.guard = none) (hc : o.op.cls = .l) (hs : s.ss = h :: ss) (hv : aopL E o.op (restr p.looks s.e) ⟨s.nx, hideB n0 n (visK p.anc s.am) h⟩ = some v) :
    dsteps E D n0 n i (o :: l) (p :: pl) s = dsteps E D n0 n (i + 1) l pl { s with e := putE s.e o.dst v, ls := (i, o.op, restr p.looks s.e, v) :: s.ls } := by
  have h : dstep E D n0 n i o p s = some { s with e := putE s.e o.dst v, ls := (i, o.op, restr p.looks s.e, v) :: s.ls } := by unfold dstep; rw [hg]; simp only [wantedA, hc, hs, hv]
  show (match dstep E D n0 n i o p s with | none => none | some s' => dsteps E D n0 n (i + 1) l pl s') = _
  rw [h]
theorem dsteps_a {b : Blk} (hg : o.guard = none) (hc : o.op.cls = .a) (hv : aopA o.op (restr p.looks s.e) (n0 + i) = some (v, b)) :
    dsteps E D n0 n i (o :: l) (p :: pl) s = dsteps E D n0 n (i + 1) l pl { s with e := putE s.e o.dst v, ss := s.ss.map ((n0 + i, b) :: ·), am := s.am ||| 2 ^ i } := by
  have h : dstep E D n0 n i o p s = some { s with e := putE s.e o.dst v, ss := s.ss.map ((n0 + i, b) :: ·), am := s.am ||| 2 ^ i } := by unfold dstep; rw [hg]; simp only [wantedA, hc, hv]
  show (match dstep E D n0 n i o p s with | none => none | some s' => dsteps E D n0 n (i + 1) l pl s') = _
  rw [h]
theorem dsteps_a' {b : Blk} {id am' : Nat} (hg : o.guard = none) (hc : o.op.cls = .a) (hid : n0 + i = id) (ham : s.am ||| 2 ^ i = am') (hv : aopA o.op (restr p.looks s.e) id = some (v, b)) :
    dsteps E D n0 n i (o :: l) (p :: pl) s = dsteps E D n0 n (i + 1) l pl { s with e := putE s.e o.dst v, ss := s.ss.map ((id, b) :: ·), am := am' } := by
  subst hid; subst ham
  exact dsteps_a hg hc hv
theorem dsteps_k {h : List (Nat × Blk)} {ss : List (List (Nat × Blk))} {σ' : H} (hg : o.guard = none) (hc : o.op.cls = .k) (hs : s.ss = h :: ss) (hv : den1 E D o.op (restr p.looks s.e) ⟨s.nx, hideB n0 n (visK p.anc s.am) h⟩ = some (v, σ')) :
    dsteps E D n0 n i (o :: l) (p :: pl) s = dsteps E D n0 n (i + 1) l pl { s with e := putE s.e o.dst v, nx := σ'.next, ss := (keepB n0 n (visK p.anc s.am) h ++ σ'.bl) :: s.ss, ks := i :: s.ks } := by
  have h : dstep E D n0 n i o p s = some { s with e := putE s.e o.dst v, nx := σ'.next, ss := (keepB n0 n (visK p.anc s.am) h ++ σ'.bl) :: s.ss, ks := i :: s.ks } := by unfold dstep; rw [hg]; simp only [wantedA, hc, hs, hv]
  show (match dstep E D n0 n i o p s with | none => none | some s' => dsteps E D n0 n (i + 1) l pl s') = _
  rw [h]
theorem dsteps_nil : dsteps E D n0 n i [] pl s = some s := by cases pl <;> rfl
theorem drawW_of {ops : List AOper} {e : Env} {σ : H} {h : List (Nat × Blk)} {ss : List (List (Nat × Blk))} (hd : dsteps E D σ.next ops.length 0 ops pl ⟨e, σ.next + ops.length, [σ.bl], [], 0, []⟩ = some s)
    (hl : s.ls.all (fun (j, op, em, v) => checkL E σ.next ops.length pl s.am j op em v s.ss s.ks []) = true) (hs : s.ss = h :: ss) :
    drawW E D ops pl e σ = some (s.e, ⟨s.nx, hideB σ.next ops.length (fun k => s.am.testBit k) h⟩) := by
  unfold drawW
  rw [hd]
  show (if s.ls.all (fun (j, op, em, v) => checkL E σ.next ops.length pl s.am j op em v s.ss s.ks []) = true then _ else none) = _
  rw [if_pos hl, hs]
end

section
variable {E : List (Nat × Blk)} {n0 n am j : Nat} {pl : List DP} {op : AOp} {em : Env} {v : V} {h : List (Nat × Blk)} {ss : List (List (Nat × Blk))} {k : Nat} {ks more : List Nat}
end
/-! ### which blocks are there -/
section
variable {n0 n : Nat} {p : Nat → Bool} {l : List (Nat × Blk)}
theorem hide_keep : ∀ {l : List (Nat × Blk)}, (∀ i, i < n → p i = false → look l (n0 + i) = none) → hideB n0 n p l = l ∧ keepB n0 n p l = []
  | [], _ => ⟨rfl, rfl⟩
  | (k, b) :: l, h => by
    have hc : (Nat.ble n0 k && Nat.blt k (n0 + n) && !p (k - n0)) = false := by
      cases hb : (Nat.ble n0 k && Nat.blt k (n0 + n) && !p (k - n0)) with
      | false => rfl
      | true =>
        exfalso
        simp only [Bool.and_eq_true, Nat.ble_eq, Nat.blt_eq, Bool.not_eq_true'] at hb
        have := h (k - n0) (by omega) hb.2
        rw [show n0 + (k - n0) = k by omega] at this
        simp [look] at this
    have ih := hide_keep (l := l) (fun i hi hp => by
      have := h i hi hp
      simp only [look] at this
      split at this
      · cases this
      · exact this)
    unfold hideB keepB
    rw [hc]
    simp only [Bool.false_eq_true, if_false]
    exact ⟨by rw [ih.1], ih.2⟩
theorem Tidy.gap {σ : H} (h : Tidy σ) (n : Nat) : ∀ id, σ.next ≤ id → id < σ.next + n → look σ.bl id = none := fun id h1 _ => by
  have := h id h1; rwa [lookF_eq] at this
theorem Tidy.wide {σ : H} (h : Tidy σ) (n : Nat) : Tidy ⟨σ.next + n, σ.bl⟩ := fun b hb => h b (by have : σ.next + n ≤ b := hb; omega)
theorem Fr.wide {S : Nat → Prop} {σ σ' : H} {n : Nat} (f : Fr S ⟨σ.next + n, σ.bl⟩ σ') : Fr S σ σ' :=
  ⟨f.tidy, by have : σ.next + n ≤ σ'.next := f.le; omega, fun b hb hn => f.same b (show b < σ.next + n by omega) hn⟩
theorem Fr.gap {S : Nat → Prop} {σ σ' : H} {n : Nat} (f : Fr S ⟨σ.next + n, σ.bl⟩ σ') (ht : Tidy σ) (hS : ∀ b, S b → b < σ.next) : ∀ id, σ.next ≤ id → id < σ.next + n → look σ'.bl id = none := fun id h1 h2 => by
  have := f.same id h2 (fun hs => by have := hS id hs; omega)
  rw [← lookF_eq, this]
  exact ht id h1
theorem look_hide_old {id : Nat} (h : id < n0) : look (hideB n0 n p l) id = look l id := by
  rw [look_hideB, if_neg (by omega)]
theorem look_cons_ne {α : Type} {k id : Nat} {b : α} {l : List (Nat × α)} (h : k ≠ id) : look ((k, b) :: l) id = look l id := by simp [look, h]
theorem load_of {E : List (Nat × Blk)} {x : AO} {e : Env} {b off nx : Nat} {h : List (Nat × Blk)} {c : List V} {v : V} (hx : opv e x = .ptr b off) (hl : look h b = some (.cells c)) (hv : c[off]? = some v) :
    aopL E (.load none x) e ⟨nx, h⟩ = some v := by
  unfold aopL
  simp only [hx, rd, hl, hv]
end
/-! ### the same, by the parts of what is held -/
section
variable {E : List (Nat × Blk)} {D : Den} {n0 n i : Nat} {d : Option Nat} {o : AOp} {l : List AOper} {anc : Nat} {lk : List Nat} {pl : List DP} {e : Env} {nx am : Nat} {ss : List (List (Nat × Blk))} {h : List (Nat × Blk)} {ks : List Nat} {ls : List (Nat × AOp × Env × V)}
theorem dp (v : V) (hc : o.cls = .p) (hv : aopP o (restr lk e) = some v) : dsteps E D n0 n i (⟨d, o, none⟩ :: l) (⟨anc, lk⟩ :: pl) ⟨e, nx, ss, ks, am, ls⟩ = dsteps E D n0 n (i + 1) l pl ⟨putE e d v, nx, ss, ks, am, ls⟩ :=
  dsteps_p rfl hc hv
theorem dl (v : V) (hc : o.cls = .l) (hv : aopL E o (restr lk e) ⟨nx, hideB n0 n (visK anc am) h⟩ = some v) : dsteps E D n0 n i (⟨d, o, none⟩ :: l) (⟨anc, lk⟩ :: pl) ⟨e, nx, h :: ss, ks, am, ls⟩ = dsteps E D n0 n (i + 1) l pl ⟨putE e d v, nx, h :: ss, ks, am, (i, o, restr lk e, v) :: ls⟩ :=
  dsteps_l rfl hc rfl hv
theorem da (v : V) (b : Blk) (id am' : Nat) (hc : o.cls = .a) (hid : n0 + i = id) (ham : am ||| 2 ^ i = am') (hv : aopA o (restr lk e) id = some (v, b)) : dsteps E D n0 n i (⟨d, o, none⟩ :: l) (⟨anc, lk⟩ :: pl) ⟨e, nx, ss, ks, am, ls⟩ = dsteps E D n0 n (i + 1) l pl ⟨putE e d v, nx, ss.map ((id, b) :: ·), ks, am', ls⟩ :=
  dsteps_a' rfl hc hid ham hv
theorem dk (v : V) (nx' : Nat) (bl' : List (Nat × Blk)) (hc : o.cls = .k) (hk : hideB n0 n (visK anc am) h = h ∧ keepB n0 n (visK anc am) h = []) (hv : den1 E D o (restr lk e) ⟨nx, h⟩ = some (v, ⟨nx', bl'⟩)) : dsteps E D n0 n i (⟨d, o, none⟩ :: l) (⟨anc, lk⟩ :: pl) ⟨e, nx, h :: ss, ks, am, ls⟩ = dsteps E D n0 n (i + 1) l pl ⟨putE e d v, nx', bl' :: h :: ss, i :: ks, am, ls⟩ := by
  have := dsteps_k (E := E) (D := D) (n0 := n0) (n := n) (i := i) (o := ⟨d, o, none⟩) (l := l) (p := ⟨anc, lk⟩) (pl := pl) (s := ⟨e, nx, h :: ss, ks, am, ls⟩) (v := v) (σ' := ⟨nx', bl'⟩) rfl hc rfl (by show den1 E D o (restr lk e) ⟨nx, hideB n0 n (visK anc am) h⟩ = _; rw [hk.1]; exact hv)
  rw [this]
  show dsteps E D n0 n (i + 1) l pl ⟨putE e d v, nx', (keepB n0 n (visK anc am) h ++ bl') :: h :: ss, i :: ks, am, ls⟩ = _
  rw [hk.2]; rfl
end
end
end Go.Og
set_option linter.all false
namespace Go.Og
noncomputable section

mutual
def V.rn (ρ : Nat → Nat) : V → V
  | .ptr b o => .ptr (ρ b) o
  | .sl b o n c => .sl (ρ b) o n c
  | .sle b o k e => .sle (ρ b) o k e
  | .mp b => .mp (ρ b)
  | .fn f a c => .fn f (rns ρ a) (rns ρ c)
  | .ifc t v => .ifc t (V.rn ρ v)
  | .agg l => .agg (rns ρ l)
  | .tup l => .tup (rns ρ l)
  | v => v
def rns (ρ : Nat → Nat) : List V → List V
  | [] => []
  | v :: l => V.rn ρ v :: rns ρ l
end
mutual
/-- All its addresses are of that kind. -/
def V.inn (p : Nat → Bool) : V → Bool
  | .dead => false
  | .ptr b _ => p b
  | .sl b _ _ _ => p b
  | .sle b _ _ _ => p b
  | .mp b => p b
  | .fn _ a c => inns p a && inns p c
  | .ifc _ v => V.inn p v
  | .agg l => inns p l
  | .tup l => inns p l
  | _ => true
def inns (p : Nat → Bool) : List V → Bool
  | [] => true
  | v :: l => V.inn p v && inns p l
end
section
variable {R S : Ren} {p : Nat → Bool} {ρ : Nat → Nat}
mutual
theorem conc_rn (h : ∀ b, p b = true → S (ρ b) = R b) : ∀ v : V, V.inn p v = true → conc S (V.rn ρ v) = conc R v
  | .dead, hc => by simp [V.inn] at hc
  | .ptr b o, hc => by
    simp only [V.inn] at hc
    simp only [V.rn, conc, h b hc]
  | .sl b o n (.ex c), hc => by
    simp only [V.inn] at hc
    simp only [V.rn, conc, h b hc]
  | .sl b o n (.op c), hc => by
    simp only [V.inn] at hc
    simp only [V.rn, conc, h b hc]
  | .sle b o k e, hc => by
    simp only [V.inn] at hc
    simp only [V.rn, conc, h b hc]
  | .mp b, hc => by
    simp only [V.inn] at hc
    simp only [V.rn, conc, h b hc]
  | .bool _, _ => rfl
  | .int _ _, _ => rfl
  | .str _, _ => rfl
  | .nilp, _ => rfl
  | .nils, _ => rfl
  | .nilm, _ => rfl
  | .nilf, _ => rfl
  | .nili, _ => rfl
  | .fn f a c, hc => by
    simp only [V.inn, Bool.and_eq_true] at hc
    simp only [V.rn, conc, concs_rn h a hc.1, concs_rn h c hc.2]
  | .ifc t v, hc => by
    simp only [V.inn] at hc
    simp only [V.rn, conc, conc_rn h v hc]
  | .agg l, hc => by
    simp only [V.inn] at hc
    simp only [V.rn, conc, concs_rn h l hc]
  | .tup l, hc => by
    simp only [V.inn] at hc
    simp only [V.rn, conc, concs_rn h l hc]
theorem concs_rn (h : ∀ b, p b = true → S (ρ b) = R b) : ∀ l : List V, inns p l = true → concs S (rns ρ l) = concs R l
  | [], _ => rfl
  | v :: l, hc => by
    simp only [inns, Bool.and_eq_true] at hc
    simp only [rns, concs, conc_rn h v hc.1, concs_rn h l hc.2]
end
theorem rns_get : ∀ (l : List V) (k : Nat), (rns ρ l)[k]? = (l[k]?).map (V.rn ρ)
  | [], k => by simp [rns]
  | v :: l, 0 => by simp [rns]
  | v :: l, k + 1 => by simpa [rns] using rns_get l k
theorem rns_length : ∀ (l : List V), (rns ρ l).length = l.length
  | [] => rfl
  | v :: l => by simp [rns, rns_length l]
theorem inns_get : ∀ {l : List V} {k : Nat} {v : V}, inns p l = true → l[k]? = some v → V.inn p v = true
  | [], k, v, _, h => by simp at h
  | u :: l, 0, v, hc, h => by
    simp only [inns, Bool.and_eq_true] at hc
    simp at h; subst h; exact hc.1
  | u :: l, k + 1, v, hc, h => by
    simp only [inns, Bool.and_eq_true] at hc
    exact inns_get hc.2 (by simpa using h)
def rnp (ρ : Nat → Nat) : List (V × V) → List (V × V)
  | [] => []
  | q :: l => (V.rn ρ q.1, V.rn ρ q.2) :: rnp ρ l
def innp (p : Nat → Bool) : List (V × V) → Bool
  | [] => true
  | q :: l => V.inn p q.1 && V.inn p q.2 && innp p l
def Blk.rn (ρ : Nat → Nat) : Blk → Blk
  | .cells l => .cells (rns ρ l)
  | .map l => .map (rnp ρ l)
  | .siter s q => .siter s q
  | .unit t => .unit t
def Blk.inn (p : Nat → Bool) : Blk → Bool
  | .cells l => inns p l
  | .map l => innp p l
  | .siter _ _ => true
  | .unit _ => true
theorem MapHolds.rn (h : ∀ b, p b = true → S (ρ b) = R b) : ∀ {l : List (V × V)} {es : List MapEntry}, innp p l = true → (MapHolds S (rnp ρ l) es ↔ MapHolds R l es)
  | [], [], _ => Iff.rfl
  | (a, b) :: l, e :: es, hc => by
    simp only [innp, Bool.and_eq_true] at hc
    simp only [rnp, MapHolds, conc_rn h a hc.1.1, conc_rn h b hc.1.2, MapHolds.rn h hc.2]
  | [], _ :: _, _ => Iff.rfl
  | _ :: _, [], _ => Iff.rfl
theorem Holds.rn (h : ∀ b, p b = true → S (ρ b) = R b) {s : Nat} {l : List V} {arr : Array Value} (hc : inns p l = true) : Holds S s (rns ρ l) arr ↔ Holds R s l arr := by
  constructor
  · intro hh k v hk
    obtain ⟨a, ha, h1, h2⟩ := hh k (V.rn ρ v) (by rw [rns_get, hk]; rfl)
    exact ⟨a, (conc_rn h v (inns_get hc hk)).symm.trans ha, h1, h2⟩
  · intro hh k v hk
    rw [rns_get, Option.map_eq_some_iff] at hk
    obtain ⟨u, hu, rfl⟩ := hk
    obtain ⟨a, ha, h1, h2⟩ := hh k u hu
    exact ⟨a, (conc_rn h u (inns_get hc hu)).trans ha, h1, h2⟩
theorem OwnOk.rn (h : ∀ b, p b = true → S (ρ b) = R b) {i : BI} {b : Blk} {w : World} (hc : b.inn p = true) : OwnOk S i (b.rn ρ) w ↔ OwnOk R i b w := by
  cases b with
  | cells l =>
    have e := @Holds.rn R S p ρ h i.shift l
    constructor
    · rintro ⟨arr, el, lo, hi, h1, h2, h3, h4, h5⟩
      exact ⟨arr, el, lo, hi, h1, (e hc).1 h2, h3, by rw [rns_length] at h4; exact h4, h5⟩
    · rintro ⟨arr, el, lo, hi, h1, h2, h3, h4, h5⟩
      exact ⟨arr, el, lo, hi, h1, (e hc).2 h2, h3, by rw [rns_length]; exact h4, h5⟩
  | map l =>
    constructor
    · rintro ⟨es, clock, h1, h2⟩
      exact ⟨es, clock, h1, (MapHolds.rn h hc).1 h2⟩
    · rintro ⟨es, clock, h1, h2⟩
      exact ⟨es, clock, h1, (MapHolds.rn h hc).2 h2⟩
  | siter s q => exact Iff.rfl
  | unit t => exact Iff.rfl
end

/-! ### what a call does at few blocks -/
structure Few where
  n0 : Nat
  args : List V
  bl0 : List (Nat × Blk)
  v : V
  n1 : Nat
  bl1 : List (Nat × Blk)
def domB (l : List (Nat × Blk)) (b : Nat) : Bool := match lookF l b with
  | some _ => true
  | none => false
def allIds (l : List (Nat × Blk)) (q : Nat → Bool) : Bool := l.all fun x => q x.1
def allBl (l : List (Nat × Blk)) (q : Nat → Bool) : Bool := l.all fun x => x.2.inn q
def Few.right (ng : Nat) (F : List V → H → Ans) (e : Few) : Bool := match F e.args ⟨e.n0, e.bl0⟩ with
  | some (v, σ) => V.beq v e.v && (inBl e.bl1 σ.bl && (Nat.beq σ.next e.n1 && (Nat.ble e.n0 e.n1 && (Nat.ble ng e.n0 && (allIds e.bl0 (fun b => Nat.ble ng b && Nat.blt b e.n0) && (allBl e.bl0 (domB e.bl0) && (inns (domB e.bl0) e.args &&
      (allIds e.bl1 (fun b => Nat.ble e.n0 b || domB e.bl0 b) && (allBl e.bl1 (domB e.bl1) && V.inn (domB e.bl1) e.v)))))))))
  | none => false
def Few.to (e : Few) (ρ : Nat → Nat) (σ : H) (id : Nat) : Nat := if id < e.n0 then ρ id else id - e.n0 + σ.next
def rnBl (ρ : Nat → Nat) (l : List (Nat × Blk)) : List (Nat × Blk) := l.map fun x => (ρ x.1, x.2.rn ρ)
def Few.old (e : Few) (ρ : Nat → Nat) (id : Nat) : Bool := e.bl0.any fun x => Nat.beq (ρ x.1) id
def Few.ans (e : Few) (ρ : Nat → Nat) (σ : H) : V × H := (e.v.rn (e.to ρ σ), ⟨σ.next + (e.n1 - e.n0), rnBl (e.to ρ σ) e.bl1 ++ σ.bl.filter fun x => !e.old ρ x.1⟩)
structure Few.Fits (e : Few) (ρ : Nat → Nat) (args : List V) (σ : H) : Prop where
  args : args = rns ρ e.args
  bl : ∀ id b, look e.bl0 id = some b → look σ.bl (ρ id) = some (b.rn ρ)
  inj : ∀ id id', domB e.bl0 id = true → domB e.bl0 id' = true → ρ id = ρ id' → id = id'

theorem domB_iff {l : List (Nat × Blk)} {b : Nat} : domB l b = true ↔ ∃ c, look l b = some c := by
  unfold domB; rw [lookF_eq]
  cases look l b <;> simp
theorem allIds_look {l : List (Nat × Blk)} {q : Nat → Bool} (h : allIds l q = true) {id : Nat} {b : Blk} (hb : look l id = some b) : q id = true := by
  have := List.all_eq_true.1 h (id, b) (look_mem hb)
  exact this
theorem allBl_look {l : List (Nat × Blk)} {q : Nat → Bool} (h : allBl l q = true) {id : Nat} {b : Blk} (hb : look l id = some b) : b.inn q = true := by
  have := List.all_eq_true.1 h (id, b) (look_mem hb)
  exact this
theorem look_rnBl {ρ : Nat → Nat} : ∀ {l : List (Nat × Blk)} {id : Nat} {b : Blk}, look (rnBl ρ l) id = some b → ∃ k c, (k, c) ∈ l ∧ id = ρ k ∧ b = c.rn ρ
  | [], id, b, h => by cases h
  | (k, c) :: l, id, b, h => by
    simp only [rnBl, List.map_cons, look] at h
    split at h
    · rename_i he
      have he := Nat.eq_of_beq_eq_true he
      simp only [Option.some.injEq] at h
      exact ⟨k, c, List.mem_cons_self, he.symm, h.symm⟩
    · obtain ⟨k', c', h1, h2, h3⟩ := look_rnBl (l := l) h
      exact ⟨k', c', List.mem_cons_of_mem _ h1, h2, h3⟩
theorem look_filter {q : Nat → Bool} : ∀ (l : List (Nat × Blk)) (id : Nat), look (l.filter fun x => q x.1) id = if q id = true then look l id else none
  | [], id => by simp [look]
  | (k, c) :: l, id => by
    by_cases hq : q k = true
    · rw [List.filter_cons_of_pos (by exact hq)]
      simp only [look, look_filter l id]
      by_cases hk : Nat.beq k id = true
      · have := Nat.eq_of_beq_eq_true hk; subst this
        simp [hq]
      · simp [hk]
    · rw [List.filter_cons_of_neg (by exact hq), look_filter l id]
      simp only [look]
      by_cases hk : Nat.beq k id = true
      · have := Nat.eq_of_beq_eq_true hk; subst this
        simp [hq]
      · simp [hk]
theorem old_iff {e : Few} {ρ : Nat → Nat} {id : Nat} : e.old ρ id = true ↔ ∃ k c, (k, c) ∈ e.bl0 ∧ ρ k = id := by
  unfold Few.old
  rw [List.any_eq_true]
  constructor
  · rintro ⟨⟨k, c⟩, h1, h2⟩; exact ⟨k, c, h1, Nat.eq_of_beq_eq_true h2⟩
  · rintro ⟨k, c, h1, h2⟩; exact ⟨(k, c), h1, by subst h2; exact Nat.beq_refl _⟩
theorem dom_of_mem : ∀ {l : List (Nat × Blk)} {k : Nat} {c : Blk}, (k, c) ∈ l → ∃ d, look l k = some d
  | (j, d) :: l, k, c, h => by
    simp only [look]
    by_cases hk : Nat.beq j k = true
    · exact ⟨d, by simp [hk]⟩
    · simp only [hk]
      rcases List.mem_cons.1 h with h | h
      · cases h; exact (hk (Nat.beq_refl _)).elim
      · simpa using dom_of_mem h

theorem loc_ok {P : Program} {G : Nat → Bool} {f : FuncId} {F : List V → H → Ans} (hS : SoundFn P [] G f F) {ng : Nat} (hG : ∀ g, G g = true → g < ng) {e : Few} (h : e.right ng F = true)
    {C : Cx} (hGC : C.G = G) {R : Ren} {σ : H} {w : World} {args : List V} {xs : List Value} {ρ : Nat → Nat} (hm : e.Fits ρ args σ) (hrel : Rel C R σ w) (hxs : concs R args = some xs) :
    callOk P f = true ∧ Calls P f xs.toArray w fun en w' => ∃ R' x, Ext σ.next R R' ∧ σ.next ≤ (e.ans ρ σ).2.next ∧ Rel C R' (e.ans ρ σ).2 w' ∧ conc R' (e.ans ρ σ).1 = some x ∧ en = .returned x := by
  unfold Few.right at h
  cases hr : F e.args ⟨e.n0, e.bl0⟩ with
  | none => rw [hr] at h; cases h
  | some q =>
    obtain ⟨v, σ1⟩ := q
    rw [hr] at h
    simp only [Bool.and_eq_true, Nat.ble_eq] at h
    obtain ⟨hv, hin, hnx, hn01, hng, hi0, hb0, ha0, hi1, hb1, hv1⟩ := h
    have hv := beq_ok _ _ hv
    subst hv
    have hin := inBl_ok hin
    have hnx := Nat.eq_of_beq_eq_true hnx
    -- where the few blocks lie
    let R0 : Ren := fun id => match domB e.bl0 id with
      | true => R (ρ id)
      | false => if id < ng then some ⟨id, 0, 0⟩ else none
    have hR0 : ∀ b, domB e.bl0 b = true → R (ρ b) = R0 b := fun b hb => by
      show R (ρ b) = (match domB e.bl0 b with | true => R (ρ b) | false => _)
      rw [hb]
    have hlt0 : ∀ {id b}, look e.bl0 id = some b → ng ≤ id ∧ id < e.n0 := fun hb => by
      have := allIds_look hi0 hb
      simpa [Nat.blt_eq] using this
    have hxs0 : concs R0 e.args = some xs := by
      rw [hm.args, concs_rn hR0 _ ha0] at hxs; exact hxs
    have own0 : ∀ id b, look e.bl0 id = some b → ∃ i, R (ρ id) = some i ∧ R0 id = some i ∧ C.O i.blk ∧ OwnOk R0 i b w := fun id b hb => by
      obtain ⟨i, hi, hO, hok⟩ := hrel.own _ _ (hm.bl id b hb)
      exact ⟨i, hi, (hR0 id (domB_iff.2 ⟨_, hb⟩)).symm.trans hi, hO, (OwnOk.rn hR0 (allBl_look hb0 hb)).1 hok⟩
    let O0 : Nat → Prop := fun blk => (∃ id b i, look e.bl0 id = some b ∧ R (ρ id) = some i ∧ i.blk = blk) ∨ w.heap.size ≤ blk
    have hrel0 : Rel ⟨O0, w, [], G⟩ R0 ⟨e.n0, e.bl0⟩ w := by
      refine ⟨?_, ?_, ?_, fun id b hb => by simp [look] at hb, ?_, fun _ _ => rfl, Nat.le_refl _, fun blk hb => .inr hb, rfl, rfl, rfl⟩
      · intro id hid
        have hid' : e.n0 ≤ id := hid
        have hd : domB e.bl0 id = false := by
          cases hc : domB e.bl0 id with
          | false => rfl
          | true =>
            obtain ⟨b, hb⟩ := domB_iff.1 hc
            have := (hlt0 hb).2; omega
        show (match domB e.bl0 id with | true => R (ρ id) | false => _) = none
        rw [hd]
        exact if_neg (by omega)
      · intro id b hb
        obtain ⟨i, hi, hi0', _, hok⟩ := own0 id b hb
        exact ⟨i, hi0', .inl ⟨id, b, i, hb, hi, rfl⟩, hok⟩
      · intro id id' b b' i i' hb hb' hi hi' hbl
        obtain ⟨j, hj, hj0, _, _⟩ := own0 id b hb
        obtain ⟨j', hj', hj0', _, _⟩ := own0 id' b' hb'
        rw [hj0] at hi; cases hi
        rw [hj0'] at hi'; cases hi'
        exact hm.inj id id' (domB_iff.2 ⟨_, hb⟩) (domB_iff.2 ⟨_, hb'⟩) (hrel.inj _ _ _ _ _ _ (hm.bl _ _ hb) (hm.bl _ _ hb') hj hj' hbl)
      · intro g hg
        have hgn := hG g hg
        refine ⟨⟨g, 0, 0⟩, ?_, rfl, rfl⟩
        have hd : domB e.bl0 g = false := by
          cases hc : domB e.bl0 g with
          | false => rfl
          | true =>
            obtain ⟨b, hb⟩ := domB_iff.1 hc
            have := (hlt0 hb).1; omega
        show (match domB e.bl0 g with | true => R (ρ g) | false => _) = _
        rw [hd]
        exact if_pos hgn
    obtain ⟨hok, hc⟩ := hS ⟨O0, w, [], G⟩ rfl rfl R0 ⟨e.n0, e.bl0⟩ w e.args xs _ σ1 hr hrel0 hxs0
    refine ⟨hok, hc.mono ?_⟩
    rintro en w' ⟨R1, x, hE1, _, h3, h4, rfl⟩
    have hE1 : ∀ id, id < e.n0 → R1 id = R0 id := hE1
    have keep : ∀ blk, ¬ O0 blk → w'.heap[blk]? = w.heap[blk]? := fun blk hb => h3.fr blk hb
    let R' : Ren := fun id => if id < σ.next then R id else R1 (id - σ.next + e.n0)
    have hext : Ext σ.next R R' := fun id hid => by show (if id < σ.next then _ else _) = _; rw [if_pos hid]
    have hle : Le R R' := hext.le hrel.fresh
    have hto : ∀ b, domB e.bl1 b = true → R' (e.to ρ σ b) = R1 b := fun b hb => by
      obtain ⟨c, hc1⟩ := domB_iff.1 hb
      have hid := allIds_look hi1 hc1
      unfold Few.to
      by_cases hl : b < e.n0
      · rw [if_pos hl]
        have hd : domB e.bl0 b = true := by
          simp only [Bool.or_eq_true, Nat.ble_eq] at hid
          rcases hid with h | h
          · omega
          · exact h
        obtain ⟨c0, hc0⟩ := domB_iff.1 hd
        have hlt := hrel.next_of_own (hm.bl b c0 hc0)
        rw [hext _ hlt, hE1 b hl, hR0 b hd]
      · rw [if_neg hl]
        show (if b - e.n0 + σ.next < σ.next then _ else R1 (b - e.n0 + σ.next - σ.next + e.n0)) = _
        rw [if_neg (by omega)]
        congr 1; omega
    -- blocks of the answer
    have hnew : ∀ {id b}, look (rnBl (e.to ρ σ) e.bl1) id = some b → ∃ k c i, id = e.to ρ σ k ∧ look σ1.bl k = some c ∧ R1 k = some i ∧ R' id = some i ∧ O0 i.blk ∧ C.O i.blk ∧ OwnOk R' i b w' := fun {id b} hb => by
      obtain ⟨k, c, hk, rfl, rfl⟩ := look_rnBl hb
      have hl1 := hin (k, c) hk
      obtain ⟨d, hd⟩ := dom_of_mem hk
      have hdb : domB e.bl1 k = true := domB_iff.2 ⟨_, hd⟩
      obtain ⟨i, hi, hO, hok'⟩ := h3.own k c hl1
      have hcin : c.inn (domB e.bl1) = true := List.all_eq_true.1 hb1 (k, c) hk
      refine ⟨k, c, i, rfl, hl1, hi, (hto k hdb).trans hi, hO, ?_, (OwnOk.rn hto hcin).2 hok'⟩
      rcases hO with ⟨id', b', i', hb', hi', heq⟩ | hO
      · obtain ⟨j, hj, _, hOj, _⟩ := own0 id' b' hb'
        rw [hj] at hi'; cases hi'
        rw [← heq]; exact hOj
      · exact hrel.new _ (Nat.le_trans hrel.size hO)
    have hrest : ∀ {id b}, look (σ.bl.filter fun x => !e.old ρ x.1) id = some b → id < σ.next ∧ look σ.bl id = some b ∧ e.old ρ id = false := fun {id b} hb => by
      rw [look_filter (q := fun k => !e.old ρ k)] at hb
      split at hb
      · rename_i hq
        exact ⟨hrel.next_of_own hb, hb, by simpa using hq⟩
      · cases hb
    have hkeep : ∀ {id b i}, look σ.bl id = some b → e.old ρ id = false → R id = some i → ¬ O0 i.blk := fun {id b i} hb ho hi hO => by
      obtain ⟨j, hj, _, hok'⟩ := hrel.own id b hb
      rw [hi] at hj; cases hj
      rcases hO with ⟨id', b', i', hb', hi', heq⟩ | hO
      · have := hrel.inj _ _ _ _ _ _ hb (hm.bl id' b' hb') hi hi' heq.symm
        have : e.old ρ id = true := old_iff.2 ⟨id', b', look_mem hb', this.symm⟩
        rw [this] at ho; cases ho
      · have := hok'.lt; omega
    have hsplit : ∀ {id b}, look (rnBl (e.to ρ σ) e.bl1 ++ σ.bl.filter fun x => !e.old ρ x.1) id = some b → look (rnBl (e.to ρ σ) e.bl1) id = some b ∨ (id < σ.next ∧ look σ.bl id = some b ∧ e.old ρ id = false) := fun {id b} hb => by
      rw [look_app] at hb
      cases hs : look (rnBl (e.to ρ σ) e.bl1) id with
      | some c => rw [hs] at hb; exact .inl hb
      | none => rw [hs] at hb; exact .inr (hrest hb)
    refine ⟨R', x, hext, Nat.le_add_right _ _, ⟨?_, ?_, ?_, ?_, ?_, ?_, Nat.le_trans hrel.size h3.size, hrel.new, h3.os.trans hrel.os, h3.tape.trans hrel.tape, h3.output.trans hrel.output⟩, (conc_rn hto _ hv1).trans h4, rfl⟩
    · intro id hid
      have hid' : σ.next + (e.n1 - e.n0) ≤ id := hid
      show (if id < σ.next then _ else R1 (id - σ.next + e.n0)) = none
      rw [if_neg (by omega)]
      exact h3.fresh _ (by rw [hnx]; omega)
    · intro id b hb
      rcases hsplit hb with hb | ⟨hl, hb, ho⟩
      · obtain ⟨k, c, i, _, _, _, hi, _, hO, hok'⟩ := hnew hb
        exact ⟨i, hi, hO, hok'⟩
      · obtain ⟨i, hi, hO, hok'⟩ := hrel.own id b hb
        exact ⟨i, hle _ _ hi, hO, hok'.mono hle (keep _ (hkeep hb ho hi))⟩
    · intro id id' b b' i i' hb hb' hi hi' hbl
      have olds : ∀ {id b i}, look σ.bl id = some b → R' id = some i → R id = some i := fun {id b i} hb hi => by
        obtain ⟨j, hj, _, _⟩ := hrel.own id b hb
        have := hle _ _ hj
        rw [hi] at this; cases this
        exact hj
      rcases hsplit hb with hb | ⟨hl, hb, ho⟩ <;> rcases hsplit hb' with hb' | ⟨hl', hb', ho'⟩
      · obtain ⟨k, c, j, h1, h5, h6, h7, _⟩ := hnew hb
        obtain ⟨k', c', j', h1', h5', h6', h7', _⟩ := hnew hb'
        rw [h7] at hi; cases hi
        rw [h7'] at hi'; cases hi'
        have := h3.inj k k' c c' _ _ h5 h5' h6 h6' hbl
        rw [h1, h1', this]
      · obtain ⟨k, c, j, h1, h5, h6, h7, h8, _⟩ := hnew hb
        rw [h7] at hi; cases hi
        have hR := olds hb' hi'
        exact (hkeep hb' ho' hR (hbl ▸ h8)).elim
      · obtain ⟨k, c, j, h1, h5, h6, h7, h8, _⟩ := hnew hb'
        rw [h7] at hi'; cases hi'
        have hR := olds hb hi
        exact (hkeep hb ho hR (hbl ▸ h8)).elim
      · exact hrel.inj id id' b b' i i' hb hb' (olds hb hi) (olds hb' hi') hbl
    · intro id b hb
      obtain ⟨i, hi, hO, hok'⟩ := hrel.ext id b hb
      refine ⟨i, hle _ _ hi, hO, hok'.mono hle (keep _ ?_)⟩
      rintro (⟨id', b', i', hb', hi', heq⟩ | hn)
      · obtain ⟨j, hj, _, hOj, _⟩ := own0 id' b' hb'
        rw [hj] at hi'; cases hi'
        exact hO (heq ▸ hOj)
      · have := hok'.lt; omega
    · intro g hg
      obtain ⟨i, hi, hb⟩ := hrel.glob g hg
      exact ⟨i, hle _ _ hi, hb⟩
    · intro blk hn
      rw [← hrel.fr blk hn]
      refine keep blk ?_
      rintro (⟨id', b', i', hb', hi', heq⟩ | hn')
      · obtain ⟨j, hj, _, hOj, _⟩ := own0 id' b' hb'
        rw [hj] at hi'; cases hi'
        exact hn (heq ▸ hOj)
      · exact hn (hrel.new _ (Nat.le_trans hrel.size hn'))

/-- Where what is called fits a known one, that one's answer. -/
def locF (l : List Few) (F : List V → H → Ans) : List V → H → Ans := fun args σ => by
  classical
  exact if h : ∃ q : Few × (Nat → Nat), q.1 ∈ l ∧ q.1.Fits q.2 args σ then some ((Classical.choose h).1.ans (Classical.choose h).2 σ) else F args σ
theorem locF_hit {l : List Few} {F : List V → H → Ans} {args : List V} {σ : H} {e : Few} {ρ : Nat → Nat} (he : e ∈ l) (hm : e.Fits ρ args σ) :
    ∃ e' ρ', e' ∈ l ∧ e'.Fits ρ' args σ ∧ locF l F args σ = some (e'.ans ρ' σ) := by
  have h : ∃ q : Few × (Nat → Nat), q.1 ∈ l ∧ q.1.Fits q.2 args σ := ⟨(e, ρ), he, hm⟩
  refine ⟨(Classical.choose h).1, (Classical.choose h).2, (Classical.choose_spec h).1, (Classical.choose_spec h).2, ?_⟩
  unfold locF
  exact dif_pos h
theorem locF_ok {P : Program} {G : Nat → Bool} {f : FuncId} {F F' : List V → H → Ans} {E : List (Nat × Blk)} (hF : SoundFn P E G f F) (hF' : SoundFn P [] G f F') {ng : Nat} (hG : ∀ g, G g = true → g < ng) {l : List Few} (hl : ∀ e ∈ l, e.right ng F' = true) : SoundFn P E G f (locF l F) := by
  intro C hE hGC R σ w args xs v σ' hr hrel hxs
  unfold locF at hr
  split at hr
  · rename_i h
    simp only [Option.some.injEq] at hr
    have := loc_ok hF' hG (hl _ (Classical.choose_spec h).1) hGC (Classical.choose_spec h).2 hrel hxs
    rw [hr] at this
    exact this
  · exact hF C hE hGC R σ w args xs v σ' hr hrel hxs
end
end Go.Og
set_option linter.all false
namespace Go.Og
noncomputable section
/-- The heap holds these blocks, under other numbers. -/
def Has (l : List (Nat × Blk)) (ρ : Nat → Nat) (σ : H) : Prop := ∀ id b, look l id = some b → lookF σ.bl (ρ id) = some (b.rn ρ)
def Inj (l : List (Nat × Blk)) (ρ : Nat → Nat) : Prop := ∀ id id', domB l id = true → domB l id' = true → ρ id = ρ id' → id = id'
theorem fits_of {e : Few} {ρ : Nat → Nat} {args : List V} {σ : H} (ha : args = rns ρ e.args) (hb : Has e.bl0 ρ σ) (hi : Inj e.bl0 ρ) : e.Fits ρ args σ :=
  ⟨ha, fun id b h => by rw [← lookF_eq]; exact hb id b h, hi⟩
/-- The numbers of an entry are as they should be. -/
def Few.shape (e : Few) : Bool := allIds e.bl0 (fun b => Nat.blt b e.n0) && (allIds e.bl1 (fun b => (Nat.ble e.n0 b || domB e.bl0 b) && Nat.blt b e.n1) && Nat.ble e.n0 e.n1)
section
variable {e : Few} {ρ : Nat → Nat} {args : List V} {σ : H}
theorem Few.shape0 (h : e.shape = true) {id : Nat} (hd : domB e.bl0 id = true) : id < e.n0 := by
  unfold Few.shape at h
  simp only [Bool.and_eq_true] at h
  obtain ⟨c, hc⟩ := domB_iff.1 hd
  simpa [Nat.blt_eq] using allIds_look h.1 hc
theorem Few.shape1 (h : e.shape = true) {id : Nat} (hd : domB e.bl1 id = true) : id < e.n1 ∧ (e.n0 ≤ id ∨ domB e.bl0 id = true) := by
  unfold Few.shape at h
  simp only [Bool.and_eq_true] at h
  obtain ⟨c, hc⟩ := domB_iff.1 hd
  have := allIds_look h.2.1 hc
  simp only [Bool.and_eq_true, Bool.or_eq_true, Nat.ble_eq, Nat.blt_eq] at this
  exact ⟨this.2, this.1⟩
theorem Few.shapeN (h : e.shape = true) : e.n0 ≤ e.n1 := by
  unfold Few.shape at h
  simp only [Bool.and_eq_true, Nat.ble_eq] at h
  exact h.2.2
theorem Few.Fits.lt (hm : e.Fits ρ args σ) (ht : Tidy σ) {id : Nat} (hd : domB e.bl0 id = true) : ρ id < σ.next := by
  obtain ⟨c, hc⟩ := domB_iff.1 hd
  have h := hm.bl id c hc
  rcases Nat.lt_or_ge (ρ id) σ.next with hl | hl
  · exact hl
  · have := ht _ hl; rw [lookF_eq, h] at this; cases this
theorem Few.to_inj (hs : e.shape = true) (hm : e.Fits ρ args σ) (ht : Tidy σ) : Inj e.bl1 (e.to ρ σ) := by
  intro id id' hd hd' h
  have h1 := (Few.shape1 hs hd).2
  have h2 := (Few.shape1 hs hd').2
  unfold Few.to at h
  by_cases ha : id < e.n0
  · have hda : domB e.bl0 id = true := by rcases h1 with h1 | h1; omega; exact h1
    by_cases hb : id' < e.n0
    · have hdb : domB e.bl0 id' = true := by rcases h2 with h2 | h2; omega; exact h2
      rw [if_pos ha, if_pos hb] at h
      exact hm.inj _ _ hda hdb h
    · rw [if_pos ha, if_neg hb] at h
      have := hm.lt ht hda; omega
  · by_cases hb : id' < e.n0
    · have hdb : domB e.bl0 id' = true := by rcases h2 with h2 | h2; omega; exact h2
      rw [if_neg ha, if_pos hb] at h
      have := hm.lt ht hdb; omega
    · rw [if_neg ha, if_neg hb] at h; omega
theorem look_rn {l : List (Nat × Blk)} {τ : Nat → Nat} (hi : ∀ id id', domB l id = true → domB l id' = true → τ id = τ id' → id = id') : ∀ {m : List (Nat × Blk)} {id : Nat} {b : Blk}, (∀ x ∈ m, domB l x.1 = true) → look m id = some b → look (rnBl τ m) (τ id) = some (b.rn τ)
  | [], id, b, _, h => by cases h
  | (k, c) :: m, id, b, hm, h => by
    simp only [look] at h
    simp only [rnBl, List.map_cons, look]
    by_cases hk : Nat.beq k id = true
    · have := Nat.eq_of_beq_eq_true hk; subst this
      rw [if_pos hk] at h
      cases h
      rw [if_pos (Nat.beq_refl _)]
    · rw [if_neg hk] at h
      have hkd : domB l k = true := hm (k, c) List.mem_cons_self
      have hid : domB l id = true := hm (id, b) (List.mem_cons_of_mem _ (look_mem h))
      rw [if_neg (fun hh => hk (by have := hi k id hkd hid (Nat.eq_of_beq_eq_true hh); subst this; exact Nat.beq_refl _))]
      exact look_rn hi (fun x hx => hm x (List.mem_cons_of_mem _ hx)) h
theorem Few.has (hs : e.shape = true) (hm : e.Fits ρ args σ) (ht : Tidy σ) : Has e.bl1 (e.to ρ σ) (e.ans ρ σ).2 := by
  intro id b hb
  show lookF (rnBl (e.to ρ σ) e.bl1 ++ σ.bl.filter fun x => !e.old ρ x.1) _ = _
  rw [lookF_eq, look_app]
  rw [look_rn (l := e.bl1) (Few.to_inj hs hm ht) (fun x hx => by
    obtain ⟨d, hd⟩ := dom_of_mem (k := x.1) (c := x.2) hx
    exact domB_iff.2 ⟨_, hd⟩) hb]
theorem Few.fr (hs : e.shape = true) (hm : e.Fits ρ args σ) (ht : Tidy σ) : Fr (fun b => e.old ρ b = true) σ (e.ans ρ σ).2 := by
  have hn := Few.shapeN hs
  refine ⟨fun b hb => ?_, Nat.le_add_right _ _, fun b hb hS => ?_⟩
  · have hb' : σ.next + (e.n1 - e.n0) ≤ b := hb
    show lookF (rnBl (e.to ρ σ) e.bl1 ++ σ.bl.filter fun x => !e.old ρ x.1) b = none
    rw [lookF_eq, look_app]
    cases hc : look (rnBl (e.to ρ σ) e.bl1) b with
    | some c =>
      exfalso
      obtain ⟨k, c', hk, he, _⟩ := look_rnBl hc
      obtain ⟨d, hd⟩ := dom_of_mem hk
      have hkd := Few.shape1 hs (domB_iff.2 ⟨d, hd⟩)
      unfold Few.to at he
      by_cases hl : k < e.n0
      · rw [if_pos hl] at he
        have hda : domB e.bl0 k = true := by rcases hkd.2 with h | h; omega; exact h
        have := hm.lt ht hda; omega
      · rw [if_neg hl] at he
        have := hkd.1; omega
    | none =>
      simp only []
      rw [look_filter (q := fun k => !e.old ρ k)]
      split
      · rw [← lookF_eq]; exact ht b (by omega)
      · rfl
  · show lookF (rnBl (e.to ρ σ) e.bl1 ++ σ.bl.filter fun x => !e.old ρ x.1) b = _
    rw [lookF_eq, look_app]
    cases hc : look (rnBl (e.to ρ σ) e.bl1) b with
    | some c =>
      exfalso
      obtain ⟨k, c', hk, he, _⟩ := look_rnBl hc
      obtain ⟨d, hd⟩ := dom_of_mem hk
      have hkd := Few.shape1 hs (domB_iff.2 ⟨d, hd⟩)
      unfold Few.to at he
      by_cases hl : k < e.n0
      · rw [if_pos hl] at he
        have hda : domB e.bl0 k = true := by rcases hkd.2 with h | h; omega; exact h
        obtain ⟨c0, hc0⟩ := domB_iff.1 hda
        exact hS (old_iff.2 ⟨k, c0, look_mem hc0, he.symm⟩)
      · rw [if_neg hl] at he; omega
    | none =>
      simp only []
      rw [look_filter (q := fun k => !e.old ρ k), if_pos (by
        cases ho : e.old ρ b with
        | true => exact (hS ho).elim
        | false => rfl), lookF_eq]
theorem Few.tidy (hs : e.shape = true) (hm : e.Fits ρ args σ) (ht : Tidy σ) : Tidy (e.ans ρ σ).2 := (Few.fr hs hm ht).tidy
/-- What one heap holds a later one holds, if nothing of it has turned. -/
theorem Has.fr {l : List (Nat × Blk)} {S : Nat → Prop} {σ σ' : H} (h : Has l ρ σ) (f : Fr S σ σ') (ht : Tidy σ) (hS : ∀ id, domB l id = true → ¬ S (ρ id)) : Has l ρ σ' := fun id b hb => by
  have h1 := h id b hb
  have hlt : ρ id < σ.next := by
    rcases Nat.lt_or_ge (ρ id) σ.next with hl | hl
    · exact hl
    · have := ht _ hl; rw [h1] at this; cases this
  rw [f.same _ hlt (hS id (domB_iff.2 ⟨_, hb⟩))]
  exact h1
theorem Has.lt {l : List (Nat × Blk)} {σ : H} (h : Has l ρ σ) (ht : Tidy σ) {id : Nat} (hd : domB l id = true) : ρ id < σ.next := by
  obtain ⟨c, hc⟩ := domB_iff.1 hd
  have h1 := h id c hc
  rcases Nat.lt_or_ge (ρ id) σ.next with hl | hl
  · exact hl
  · have := ht _ hl; rw [h1] at this; cases this
end
end
end Go.Og
set_option linter.all false
namespace Go.Og
noncomputable section
section
variable {p : Nat → Bool} {ρ τ : Nat → Nat}
mutual
theorem rn_congr (h : ∀ b, p b = true → ρ b = τ b) : ∀ v : V, V.inn p v = true → V.rn ρ v = V.rn τ v
  | .dead, hc => by simp [V.inn] at hc
  | .ptr b o, hc => by simp only [V.inn] at hc; simp only [V.rn, h b hc]
  | .sl b o n c, hc => by simp only [V.inn] at hc; simp only [V.rn, h b hc]
  | .sle b o k e, hc => by simp only [V.inn] at hc; simp only [V.rn, h b hc]
  | .mp b, hc => by simp only [V.inn] at hc; simp only [V.rn, h b hc]
  | .bool _, _ => rfl
  | .int _ _, _ => rfl
  | .str _, _ => rfl
  | .nilp, _ => rfl
  | .nils, _ => rfl
  | .nilm, _ => rfl
  | .nilf, _ => rfl
  | .nili, _ => rfl
  | .fn f a c, hc => by
    simp only [V.inn, Bool.and_eq_true] at hc
    simp only [V.rn, rns_congr h a hc.1, rns_congr h c hc.2]
  | .ifc t v, hc => by
    simp only [V.inn] at hc
    simp only [V.rn, rn_congr h v hc]
  | .agg l, hc => by
    simp only [V.inn] at hc
    simp only [V.rn, rns_congr h l hc]
  | .tup l, hc => by
    simp only [V.inn] at hc
    simp only [V.rn, rns_congr h l hc]
theorem rns_congr (h : ∀ b, p b = true → ρ b = τ b) : ∀ l : List V, inns p l = true → rns ρ l = rns τ l
  | [], _ => rfl
  | v :: l, hc => by
    simp only [inns, Bool.and_eq_true] at hc
    simp only [rns, rn_congr h v hc.1, rns_congr h l hc.2]
end
theorem rnp_congr (h : ∀ b, p b = true → ρ b = τ b) : ∀ l : List (V × V), innp p l = true → rnp ρ l = rnp τ l
  | [], _ => rfl
  | q :: l, hc => by
    simp only [innp, Bool.and_eq_true] at hc
    simp only [rnp, rn_congr h q.1 hc.1.1, rn_congr h q.2 hc.1.2, rnp_congr h l hc.2]
theorem Blk.rn_congr (h : ∀ b, p b = true → ρ b = τ b) {b : Blk} (hc : b.inn p = true) : b.rn ρ = b.rn τ := by
  cases b with
  | cells l => exact congrArg Blk.cells (rns_congr h l hc)
  | map l => exact congrArg Blk.map (rnp_congr h l hc)
  | siter s q => rfl
  | unit t => rfl
end
/-- The call leaves its blocks as they are. -/
def Few.still (e : Few) : Bool := inBl e.bl0 e.bl1 && (allBl e.bl0 (domB e.bl0) && inBl e.bl0 e.bl0)
section
variable {e : Few} {ρ : Nat → Nat} {args : List V} {σ : H}
theorem Few.fr0 (hs : e.shape = true) (hw : e.still = true) (hm : e.Fits ρ args σ) (ht : Tidy σ) : Fr Nowhere σ (e.ans ρ σ).2 := by
  have f := Few.fr hs hm ht
  have hh := Few.has hs hm ht
  unfold Few.still at hw
  simp only [Bool.and_eq_true] at hw
  obtain ⟨h1, h2, h3⟩ := hw
  refine ⟨f.tidy, f.le, fun b hb _ => ?_⟩
  by_cases ho : e.old ρ b = true
  · obtain ⟨k, c, hk, rfl⟩ := old_iff.1 ho
    have l0 := inBl_ok h3 (k, c) hk
    have l1 := inBl_ok h1 (k, c) hk
    have hd : domB e.bl0 k = true := domB_iff.2 ⟨_, l0⟩
    have hlt := Few.shape0 hs hd
    have a1 := hh k c l1
    have et : e.to ρ σ k = ρ k := by unfold Few.to; rw [if_pos hlt]
    rw [et] at a1
    rw [a1, lookF_eq, hm.bl k c l0]
    congr 1
    refine (Blk.rn_congr (p := domB e.bl0) (fun b hb => ?_) (allBl_look h2 l0)).symm
    unfold Few.to
    rw [if_pos (Few.shape0 hs hb)]
  · exact f.same b hb ho
end
end
end Go.Og
set_option maxRecDepth 100000
set_option linter.all false
namespace Go.Og
open Go Go.RowKit Go.Deep
/-- What is sound where nothing is known is sound where something is. -/
theorem SoundFn.ofNil {P : Program} {G : Nat → Bool} {f : FuncId} {F : List V → H → Ans} (h : SoundFn P [] G f F) (E : List (Nat × Blk)) : SoundFn P E G f F := by
  intro C hE hG R σ w args xs v σ' hr hrel hxs
  have hrel' : Rel ⟨C.O, C.w0, [], C.G⟩ R σ w := ⟨hrel.fresh, hrel.own, hrel.inj, fun id b hb => by simp [look] at hb, hrel.glob, hrel.fr, hrel.size, hrel.new, hrel.os, hrel.tape, hrel.output⟩
  obtain ⟨hok, hc⟩ := h ⟨C.O, C.w0, [], C.G⟩ rfl hG R σ w args xs v σ' hr hrel' hxs
  refine ⟨hok, hc.mono ?_⟩
  rintro en w' ⟨R', x, h1, h2, h3, h4, h5⟩
  refine ⟨R', x, h1, h2, ⟨h3.fresh, h3.own, h3.inj, ?_, h3.glob, h3.fr, h3.size, h3.new, h3.os, h3.tape, h3.output⟩, h4, h5⟩
  intro id b hb
  obtain ⟨i, hi, hn, hx⟩ := hrel.ext id b hb
  exact ⟨i, (h1.le hrel.fresh) _ _ hi, hn, hx.mono (h1.le hrel.fresh) ((h3.fr _ hn).trans (hrel.fr _ hn).symm)⟩
/-- A law answers true, and below the heap's old end nothing has turned; what the arguments lead to is known (E). -/
theorem law_belowE {P : Program} {G : Nat → Bool} {f : FuncId} {F : List V → H → Ans} {E : List (Nat × Blk)} (hS : SoundFn P E G f F) {ng n0 : Nat} (hG : ∀ g, G g = true → g < ng) (hn : ng ≤ n0) (l : List (Nat × BI)) (args : List V) (xs : List Value) (w : World)
    (hl : ∀ id i, look l id = some i → id < n0) (hE : ∀ id b, look E id = some b → ∃ i, argR ng l id = some i ∧ ExtOk (argR ng l) i b w) (hx : concs (argR ng l) args = some xs) (h : okB (F args ⟨n0, []⟩) = true) :
    Calls P f xs.toArray w fun e w' => e = .returned (.bool true) ∧ RowKit.Below w.heap.size w w' := by
  obtain ⟨σ, hσ⟩ := okB_some h
  obtain ⟨_, hc⟩ := hS ⟨fun blk => w.heap.size ≤ blk, w, E, G⟩ rfl rfl (argR ng l) ⟨n0, []⟩ w args xs _ σ hσ (start_relE hG hn l E w hl hE) hx
  refine hc.mono ?_
  rintro en w' ⟨R', x, _, _, h3, h4, rfl⟩
  cases h4
  exact ⟨rfl, h3.os, h3.tape, h3.output, h3.size, fun k hk => h3.fr k (Nat.not_le.2 hk)⟩
theorem addr_add (b o i : Nat) : (⟨b, o, none⟩ : Addr).add i = ⟨b, o + i, none⟩ := by
  unfold Addr.add
  split
  · rename_i h; subst h; rfl
  · rfl
section
variable {H : Type} {enc : TypeId × Value → H} {P : Program} {w : World} {t e : TypeId} {d : DataW H} {ps : List MemPlace} {blk off len cap : Nat}
theorem row_cells (ht : P.underlying t = some (.slice e)) (hc : P.cellsOf e = 1) (h : DataW.Trod enc P w 0 (fun _ => true) true t (.slice (some ⟨blk, off, none⟩) len cap) d ps) :
    ∃ V : Nat → Value, ∀ i, i < len → w.cell? ⟨blk, off + i, none⟩ = some (V i) ∧ ∃ n D p, DataW.trod enc P w 0 (fun _ => true) true n e [V i] = some (D, p) := by
  obtain ⟨fuel, hf⟩ := h
  rcases open_slice1 ht hc hf with ⟨h0, _⟩ | ⟨a, len', cap', m, n, V, D, Pl, hcs, _, hl, _, hm, _, hx⟩
  · simp [Value.cells] at h0
  · simp only [Value.cells, List.cons.injEq, Value.slice.injEq, Option.some.injEq, and_true] at hcs
    obtain ⟨rfl, rfl, rfl⟩ := hcs
    refine ⟨V, fun i hi => ?_⟩
    obtain ⟨h1, h2⟩ := hx i (by rw [hm]; simp only [if_true]; omega)
    rw [addr_add] at h1
    exact ⟨h1, _, _, _, h2⟩
theorem row_bools (ht : P.underlying t = some (.slice e)) (he : P.underlying e = some .bool) (hc : P.cellsOf e = 1) (h : DataW.Trod enc P w 0 (fun _ => true) true t (.slice (some ⟨blk, off, none⟩) len cap) d ps) :
    ∃ B : Nat → Bool, ∀ i, i < len → w.cell? ⟨blk, off + i, none⟩ = some (.bool (B i)) := by
  obtain ⟨V, hV⟩ := row_cells ht hc h
  have : ∀ i, i < len → ∃ b, V i = .bool b := fun i hi => by
    obtain ⟨_, n, D, p, h2⟩ := hV i hi
    obtain ⟨b, hb, _⟩ := DataW.trod_bool he h2
    simp only [List.cons.injEq, and_true] at hb
    exact ⟨b, hb⟩
  obtain ⟨B, hB⟩ := choose_lt this
  exact ⟨B, fun i hi => by rw [(hV i hi).1, hB i hi]⟩
theorem row_ints {k : IntKind} (ht : P.underlying t = some (.slice e)) (he : P.underlying e = some (.int k)) (hc : P.cellsOf e = 1) (h : DataW.Trod enc P w 0 (fun _ => true) true t (.slice (some ⟨blk, off, none⟩) len cap) d ps) :
    ∃ B : Nat → Int, ∀ i, i < len → w.cell? ⟨blk, off + i, none⟩ = some (.int k (B i)) ∧ (Lit.int k (B i)).wf = true := by
  obtain ⟨V, hV⟩ := row_cells ht hc h
  have : ∀ i, i < len → ∃ b, V i = .int k b ∧ (Lit.int k b).wf = true := fun i hi => by
    obtain ⟨_, n, D, p, h2⟩ := hV i hi
    cases n with
    | zero => simp [DataW.trod] at h2
    | succ n =>
      unfold DataW.trod at h2
      rw [he] at h2
      split at h2 <;> simp_all
  obtain ⟨B, hB⟩ := choose_lt this
  exact ⟨B, fun i hi => ⟨by rw [(hV i hi).1, (hB i hi).1], (hB i hi).2⟩⟩
end
theorem cell_arr {w : World} {blk off : Nat} {v : Value} (h : w.cell? ⟨blk, off, none⟩ = some v) : ∃ arr el fr, w.heap[blk]? = some (.cells arr el fr) ∧ arr[off]? = some v := by
  unfold World.cell? at h
  simp only [] at h
  split at h
  · rename_i c el fr hh
    exact ⟨c, el, fr, hh, by simpa using h⟩
  · cases h
theorem ext_row {R : Ren} {w : World} {blk off : Nat} {l : List V} (hne : l ≠ []) (h : ∀ k v, l[k]? = some v → ∃ a, conc R v = some a ∧ a.oneCell' = true ∧ w.cell? ⟨blk, off + k, none⟩ = some a) : ExtOk R ⟨blk, off, 0⟩ (.cells l) w := by
  cases l with
  | nil => exact (hne rfl).elim
  | cons u l =>
    obtain ⟨a, _, _, h0⟩ := h 0 u rfl
    obtain ⟨arr, el, fr, h1, _⟩ := cell_arr h0
    refine ⟨arr, el, fr, h1, fun k v hk => ?_⟩
    obtain ⟨a', h2, h3, h4⟩ := h k v hk
    obtain ⟨arr', el', fr', h5, h6⟩ := cell_arr h4
    rw [h1] at h5
    cases h5
    exact ⟨a', h2, h3, h6⟩
theorem ext_one {R : Ren} {w : World} {id : Nat} {i : BI} {b : Blk} (hR : R id = some i) (h : ExtOk R i b w) : ∀ id' b', look [(id, b)] id' = some b' → ∃ j, R id' = some j ∧ ExtOk R j b' w := by
  intro id' b' hb
  simp only [look] at hb
  split at hb
  · rename_i he
    have := Nat.eq_of_beq_eq_true he
    subst this
    cases hb
    exact ⟨i, hR, h⟩
  · cases hb
theorem ext_list {R : Ren} {w : World} {blk off len : Nat} {f : Nat → V} {g : Nat → Value} (hc : ∀ i, conc R (f i) = some (g i) ∧ (g i).oneCell' = true) (h : ∀ i, i < len → w.cell? ⟨blk, off + i, none⟩ = some (g i)) (h0 : len ≠ 0) : ExtOk R ⟨blk, off, 0⟩ (.cells ((List.range len).map f)) w := by
  refine ext_row (by simp [h0]) fun k v hk => ?_
  rw [List.getElem?_map, Option.map_eq_some_iff] at hk
  obtain ⟨j, hj, rfl⟩ := hk
  obtain ⟨hj1, rfl⟩ := List.getElem?_eq_some_iff.1 hj
  have hk' : k < len := by simpa using hj1
  refine ⟨g k, ?_, (hc k).2, h k hk'⟩
  simp [(hc k).1]
end Go.Og
set_option linter.all false
namespace Go.Og
noncomputable section
section
variable {E : List (Nat × Blk)} {σ σ' : H} {b b' : Nat} {l m : List V}
theorem ldK_is {κ : V → Ans} {o : Nat} (h : Atc σ b l) : ldK E σ b o κ = nthK l o κ := rdK_at h
theorem ldnK_is {κ : List V → Ans} {o n : Nat} (h : Atc σ b l) : ldnK E σ b o n κ = subK l o n κ := rdK_at h
theorem nthK_zero {a : V} {κ : V → Ans} : nthK (a :: l) 0 κ = κ a := rfl
theorem nthK_succ {a : V} {n : Nat} {κ : V → Ans} : nthK (a :: l) (n + 1) κ = nthK l n κ := rfl
theorem subK_2 {a b : V} {κ : List V → Ans} : subK [a, b] 0 2 κ = κ [a, b] := rfl
theorem subK_4 {a b c d : V} {κ : List V → Ans} : subK [a, b, c, d] 0 4 κ = κ [a, b, c, d] := rfl
theorem subK_5 {a b c d e : V} {κ : List V → Ans} : subK [a, b, c, d, e] 0 4 κ = κ [a, b, c, d] := rfl
theorem subK_6 {a b c d e f : V} {κ : List V → Ans} : subK [a, b, c, d, e, f] 0 6 κ = κ [a, b, c, d, e, f] := rfl
theorem subK_13 {a b c d e f g h i j k l m : V} {κ : List V → Ans} : subK [a, b, c, d, e, f, g, h, i, j, k, l, m] 0 13 κ = κ [a, b, c, d, e, f, g, h, i, j, k, l, m] := rfl
theorem subK_con {a b c d e f g h i j k l m : V} {κ : List V → Ans} : subK [a, b, c, d, e, f, g, h, i, j, k, l, m] 2 6 κ = κ [c, d, e, f, g, h] := rfl
theorem cells_agg (l : List V) : (V.agg l).cells = l := rfl
theorem cells_int (k : IntKind) (n : Int) : (V.int k n).cells = [.int k n] := rfl
theorem cells_ptr (b o : Nat) : (V.ptr b o).cells = [.ptr b o] := rfl
theorem allOne_cons (v : V) (l : List V) : allOne (v :: l) = (v.one && allOne l) := rfl
theorem allOne_nil : allOne [] = true := rfl
theorem one_int (k : IntKind) (n : Int) : (V.int k n).one = true := rfl
theorem one_bool (c : Bool) : (V.bool c).one = true := rfl
theorem one_str (s : BS) : (V.str s).one = true := rfl
theorem one_nils : V.nils.one = true := rfl
theorem one_sl (b o n : Nat) (c : Cap) : (V.sl b o n c).one = true := rfl
theorem one_ptr (b o : Nat) : (V.ptr b o).one = true := rfl
theorem chk_t (a : Ans) : chk true a = a := rfl
theorem rtOne_nils {a : Ans} : rtOne .nils a = a := rfl
theorem rtOne_pt {b o : Nat} {a : Ans} : rtOne (.ptr b o) a = a := rfl
theorem rtOne_of {v : V} {a : Ans} (h : v.one = true) : rtOne v a = a := by cases v <;> first | rfl | cases h
theorem slenK_nils {κ : Nat → Ans} : slenK .nils κ = κ 0 := rfl
theorem slenK_sl {b o n : Nat} {c : Cap} {κ : Nat → Ans} : slenK (.sl b o n c) κ = κ n := rfl
theorem nnK_nat {n : Nat} {κ : Nat → Ans} : nnK (Int.ofNat n) κ = κ n := rfl
theorem condK_ift {c : Bool} {a b : Ans} (h : c = true) : condK c a b = a := by rw [h]; rfl
theorem condK_iff {c : Bool} {a b : Ans} (h : c = false) : condK c a b = b := by rw [h]; rfl
theorem chk_if {c : Bool} {a : Ans} (h : c = true) : chk c a = a := by rw [h]; rfl
/-- A join that is an "or". -/
theorem join_or (f : Bool → H → Ans) (c d : Bool) (σ : H) : joinB f (fun k => condK c (k true σ) (k d σ)) = f (c || d) σ := by cases c <;> rfl
/-- A join that is an "and". -/
theorem join_and (f : Bool → H → Ans) (c d : Bool) (σ : H) : joinB f (fun k => condK c (k d σ) (k false σ)) = f (c && d) σ := by cases c <;> rfl
theorem join_id (f : Bool → H → Ans) (c : Bool) (σ : H) : joinB f (fun k => k c σ) = f c σ := rfl
/-! ### slices that are read, slices that grow -/
/-- A slice of n elements (of esz cells each), to be read: these cells. -/
def Src (σ : H) (esz n : Nat) (x : V) (m : List V) : Prop := (n = 0 ∧ x = .nils ∧ m = []) ∨ ∃ b o c L, x = .sl b o n c ∧ Atc σ b L ∧ o + n * esz ≤ L.length ∧ m = (L.drop o).take (n * esz)
/-- A slice that append may lengthen: grown by append, or a full one. -/
def Dst (σ : H) (esz k : Nat) (v : V) (l : List V) : Prop := Sl σ esz k v l ∨ ∃ b, v = .sl b 0 k (.ex k) ∧ Atc σ b l ∧ l.length = k * esz
theorem Src.one {esz n : Nat} {x : V} (h : Src σ esz n x m) : x.one = true := by
  rcases h with ⟨_, rfl, _⟩ | ⟨_, _, _, _, rfl, _⟩ <;> rfl
theorem Src.slen {esz n : Nat} {x : V} {κ : Nat → Ans} (h : Src σ esz n x m) : slenK x κ = κ n := by
  rcases h with ⟨rfl, rfl, _⟩ | ⟨_, _, _, _, rfl, _⟩ <;> rfl
theorem Src.length {esz n : Nat} {x : V} (h : Src σ esz n x m) : m.length = n * esz := by
  rcases h with ⟨rfl, _, rfl⟩ | ⟨_, o, _, L, _, _, h, rfl⟩
  · simp
  · simp only [List.length_take, List.length_drop]; omega
theorem Src.srcK {esz n : Nat} {x : V} {κ : Nat → List V → Ans} (h : Src σ esz n x m) : srcK E σ esz x κ = κ n m := by
  rcases h with ⟨rfl, rfl, rfl⟩ | ⟨b, o, c, L, rfl, ha, hl, rfl⟩
  · rfl
  · exact srcK_ex ha hl
theorem Src.cells {esz n : Nat} {x : V} (h : Src σ esz n x m) : srcCells E σ esz x = some (n, m) := by
  rcases h with ⟨rfl, rfl, rfl⟩ | ⟨b, o, c, L, rfl, ha, hl, rfl⟩
  · rfl
  · show (rdN E σ b o (n * esz)).map _ = _
    unfold rdN rd
    rw [← lookF_eq, show lookF σ.bl b = some (.cells L) from ha]
    simp only []
    rw [show Nat.ble (o + n * esz) L.length = true from ble_of hl]
    rfl
theorem Src.fr {S : Nat → Prop} {esz n : Nat} {x : V} (h : Src σ esz n x m) (f : Fr S σ σ') (ht : Tidy σ) (hn : ∀ b, Names x b → ¬ S b) : Src σ' esz n x m := by
  rcases h with h | ⟨b, o, c, L, rfl, ha, hl, rfl⟩
  · exact .inl h
  · exact .inr ⟨b, o, c, L, rfl, f.at_ ha ht (hn b rfl), hl, rfl⟩
theorem Src.lt {esz n : Nat} {x : V} (h : Src σ esz n x m) (ht : Tidy σ) (hb : Names x b) : b < σ.next := by
  rcases h with ⟨_, rfl, _⟩ | ⟨_, _, _, _, rfl, ha, _⟩
  · exact hb.elim
  · cases hb; exact ha.lt ht
theorem Dst.nil (σ : H) (esz : Nat) : Dst σ esz 0 .nils [] := .inl (Sl.nil σ esz)
theorem Dst.length {esz k : Nat} {v : V} (h : Dst σ esz k v l) : l.length = k * esz := by
  rcases h with h | ⟨_, _, _, h⟩
  · exact h.length
  · exact h
theorem Dst.one {esz k : Nat} {v : V} (h : Dst σ esz k v l) : v.one = true := by
  rcases h with h | ⟨_, rfl, _⟩
  · exact h.one
  · rfl
theorem Dst.slen {esz k : Nat} {v : V} {κ : Nat → Ans} (h : Dst σ esz k v l) : slenK v κ = κ k := by
  rcases h with h | ⟨_, rfl, _⟩
  · exact h.slen
  · rfl
theorem Dst.lt {esz k : Nat} {v : V} (h : Dst σ esz k v l) (ht : Tidy σ) (hb : Names v b) : b < σ.next := by
  rcases h with h | ⟨_, rfl, ha, _⟩
  · exact h.lt ht hb
  · cases hb; exact ha.lt ht
theorem Dst.fr {S : Nat → Prop} {esz k : Nat} {v : V} (h : Dst σ esz k v l) (f : Fr S σ σ') (ht : Tidy σ) (hn : ∀ b, Names v b → ¬ S b) : Dst σ' esz k v l := by
  rcases h with h | ⟨b, rfl, ha, hl⟩
  · exact .inl (h.fr f ht hn)
  · exact .inr ⟨b, rfl, f.at_ ha ht (hn b rfl), hl⟩
theorem Dst.src {esz k : Nat} {v : V} (h : Dst σ esz k v l) : Src σ esz k v l := by
  rcases h with (⟨rfl, rfl, rfl⟩ | ⟨b, rfl, ha, _, hl⟩) | ⟨b, rfl, ha, hl⟩
  · exact .inl ⟨rfl, rfl, rfl⟩
  · exact .inr ⟨b, 0, _, l, rfl, ha, by omega, by rw [List.drop_zero, ← hl, List.take_length]⟩
  · exact .inr ⟨b, 0, _, l, rfl, ha, by omega, by rw [List.drop_zero, ← hl, List.take_length]⟩
/-- A slice value that is nil or lies in a block, with so many elements. -/
def Len (v : V) (n : Nat) : Prop := v.one = true ∧ ∀ κ : Nat → Ans, slenK v κ = κ n
theorem Len.nils : Len .nils 0 := ⟨rfl, fun _ => rfl⟩
theorem Len.sl {b o n : Nat} {c : Cap} : Len (.sl b o n c) n := ⟨rfl, fun _ => rfl⟩
theorem Src.len {σ : H} {esz n : Nat} {x : V} {m : List V} (h : Src σ esz n x m) : Len x n := ⟨h.one, fun _ => h.slen⟩
/-- Appending nothing. -/
theorem app_none {esz bytes k : Nat} {v x : V} {κ : V → H → Ans} (h : Dst σ esz k v l) (hx : Src σ esz 0 x m) : appK E esz bytes v x σ κ = κ v σ := by
  unfold appK
  rw [hx.srcK]
  rcases h with (⟨rfl, rfl, rfl⟩ | ⟨b, rfl, ha, _, hl⟩) | ⟨b, rfl, ha, hl⟩
  · show callK (appendV E esz bytes .nils x σ) κ = _
    unfold appendV; rw [hx.cells]; rfl
  · rfl
  · show callK (appendV E esz bytes (.sl b 0 k (.ex k)) x σ) κ = _
    unfold appendV; rw [hx.cells]
    simp only []
    rw [if_pos (show Nat.ble (k + 0) k = true from ble_of (Nat.le_refl _))]
    rfl
/-- Appending something: a new block. -/
theorem app_some {esz bytes k n : Nat} {v x : V} (h : Dst σ esz k v l) (ht : Tidy σ) (hx : Src σ esz n x m) (hn : 0 < n) (ho : allOne m = true) (hg : growable (k + n) bytes = true) :
    ∃ σ', (∀ κ : V → H → Ans, appK E esz bytes v x σ κ = κ (.sl σ.next 0 (k + n) (.op esz)) σ') ∧ Atc σ' σ.next (l ++ m) ∧ σ'.next = σ.next + 1 ∧ Fr (Names v) σ σ' := by
  obtain ⟨n', rfl⟩ : ∃ q, n = q + 1 := ⟨n - 1, by omega⟩
  rcases h with (⟨rfl, rfl, rfl⟩ | ⟨b, rfl, ha, hk, hl⟩) | ⟨b, rfl, ha, hl⟩
  · refine ⟨newB σ (.cells m), fun κ => ?_, by rw [List.nil_append]; exact Atc_newB m, rfl, Fr.new ht _⟩
    unfold appK
    rw [hx.srcK]
    show callK (appendV E esz bytes .nils x σ) κ = _
    unfold appendV; rw [hx.cells]
    simp only []
    rw [Nat.zero_add] at hg ⊢
    rw [if_neg (by omega), if_pos hg]
    rfl
  · refine ⟨⟨σ.next + 1, (σ.next, .cells (l ++ m)) :: drop σ.bl b⟩, fun κ => ?_, ?_, rfl, ?_⟩
    · unfold appK
      rw [hx.srcK]
      show (match lookF σ.bl b with
        | some (.cells l) => chk (Nat.beq l.length (k * esz) && Nat.beq esz esz && growable (k + (n' + 1)) bytes && allOne m) (forceD σ.bl b fun bl' => κ (.sl σ.next 0 (k + (n' + 1)) (.op esz)) ⟨σ.next + 1, (σ.next, .cells (l ++ m)) :: bl'⟩)
        | _ => none) = _
      rw [show lookF σ.bl b = some (.cells l) from ha]
      simp only []
      rw [chk_true (by rw [hg, ho, hl]; simp), forceD_eq]
    · show lookF ((σ.next, Blk.cells (l ++ m)) :: _) _ = _
      rw [lookF_cons, if_pos rfl]
    · refine ⟨fun k' hk' => ?_, Nat.le_succ _, fun k' hk' hn => ?_⟩
      · have hk2 : σ.next + 1 ≤ k' := hk'
        show lookF ((σ.next, _) :: drop σ.bl b) k' = none
        rw [lookF_cons, if_neg (by simp only []; omega), lookF_drop]
        split
        · rfl
        · exact ht k' (by omega)
      · show lookF ((σ.next, _) :: drop σ.bl b) k' = _
        rw [lookF_cons, if_neg (by simp only []; omega), lookF_drop, if_neg]
        intro hbk
        exact hn hbk.symm
  · refine ⟨newB σ (.cells (l ++ m)), fun κ => ?_, Atc_newB _, rfl, Fr.new ht _⟩
    unfold appK
    rw [hx.srcK]
    show callK (appendV E esz bytes (.sl b 0 k (.ex k)) x σ) κ = _
    unfold appendV; rw [hx.cells]
    simp only []
    rw [if_neg (show ¬ Nat.ble (k + (n' + 1)) k = true from fun h => by rw [Nat.ble_eq] at h; omega), if_pos hg]
    have hr : rdN E σ b 0 (k * esz) = some l := by
      unfold rdN rd
      rw [← lookF_eq, show lookF σ.bl b = some (.cells l) from ha]
      simp only []
      rw [show Nat.ble (0 + k * esz) l.length = true from ble_of (by omega)]
      rw [List.drop_zero, ← hl, List.take_length]; rfl
    rw [hr]
    rfl
/-- Both together: what append leaves. -/
theorem app_all {esz bytes k n : Nat} {v x : V} (h : Dst σ esz k v l) (ht : Tidy σ) (hx : Src σ esz n x m) (ho : allOne m = true) (hg : growable (k + n) bytes = true) :
    ∃ u σ', (∀ κ : V → H → Ans, appK E esz bytes v x σ κ = κ u σ') ∧ Dst σ' esz (k + n) u (l ++ m) ∧ (∀ b, Names u b → Names v b ∨ σ.next ≤ b) ∧ Fr (Names v) σ σ' := by
  cases n with
  | zero =>
    have hm : m = [] := List.eq_nil_of_length_eq_zero (by rw [hx.length]; omega)
    subst hm
    exact ⟨v, σ, fun κ => app_none h hx, by rw [List.append_nil]; exact h, fun b hb => .inl hb, Fr.refl ht⟩
  | succ n =>
    obtain ⟨σ', g, a, nx, f⟩ := app_some (E := E) h ht hx (Nat.succ_pos n) ho hg
    refine ⟨_, σ', g, .inl (.inr ⟨σ.next, rfl, a, by omega, ?_⟩), fun b hb => .inr (by cases hb; exact Nat.le_refl _), f⟩
    rw [List.length_append, h.length, hx.length, ← Nat.add_mul]
end
end
end Go.Og
set_option linter.all false
namespace Go.Og
noncomputable section
/-- What a load finds in an old block, whatever else has come. -/
def OldLd (E : List (Nat × Blk)) (σ : H) (n : Nat) (S : Nat → Prop) (o : AOp) (e : Env) (v : V) : Prop := V.beq v v = true ∧ ∀ (nx : Nat) (h : List (Nat × Blk)) (p : Nat → Bool), (∀ id, id < σ.next → ¬ S id → look h id = look σ.bl id) → aopL E o e ⟨nx, hideB σ.next n p h⟩ = some v
structure RegOk (E : List (Nat × Blk)) (σ : H) (n : Nat) (S : Nat → Prop) (nx : Nat) (ss : List (List (Nat × Blk))) (am : Nat) (ls : List (Nat × AOp × Env × V)) (σc : H) : Prop where
  hd : nx = σc.next ∧ ∃ r, ss = σc.bl :: r
  big : σ.next + n ≤ nx
  fr : Fr S σ σc
  old : ∀ h ∈ ss, ∀ id, id < σ.next → ¬ S id → look h id = look σ.bl id
  gap : ∀ h ∈ ss, ∀ i, i < n → am.testBit i = false → look h (σ.next + i) = none
  ld : ∀ x ∈ ls, OldLd E σ n S x.2.1 x.2.2.1 x.2.2.2
/-- The region runs on, and leaves this. -/
def Goes (E : List (Nat × Blk)) (D : Den) (σ : H) (n i : Nat) (S : Nat → Prop) (ops : List AOper) (pl : List DP) (s : DS) (env : Env) (σ' : H) : Prop := ∃ s', dsteps E D σ.next n i ops pl s = some s' ∧ s'.e = env ∧ RegOk E σ n S s'.nx s'.ss s'.am s'.ls σ'
section
variable {E : List (Nat × Blk)} {D : Den} {σ σc σ' : H} {n i : Nat} {S : Nat → Prop} {d : Option Nat} {o : AOp} {l : List AOper} {anc : Nat} {lk : List Nat} {pl : List DP} {e env : Env} {nx am : Nat} {ss : List (List (Nat × Blk))} {ks : List Nat} {ls : List (Nat × AOp × Env × V)}
theorem go_nil (hr : RegOk E σ n S nx ss am ls σc) : Goes E D σ n i S [] pl ⟨e, nx, ss, ks, am, ls⟩ e σc := ⟨_, dsteps_nil, rfl, hr⟩
theorem go_p (v : V) (hc : o.cls = .p) (hv : aopP o (restr lk e) = some v) (k : Goes E D σ n (i + 1) S l pl ⟨putE e d v, nx, ss, ks, am, ls⟩ env σ') : Goes E D σ n i S (⟨d, o, none⟩ :: l) (⟨anc, lk⟩ :: pl) ⟨e, nx, ss, ks, am, ls⟩ env σ' := by
  obtain ⟨s', h1, h2, h3⟩ := k
  exact ⟨s', (dp v hc hv).trans h1, h2, h3⟩
theorem go_l (v : V) (hr : RegOk E σ n S nx ss am ls σc) (hc : o.cls = .l) (hv : OldLd E σ n S o (restr lk e) v) (k : ∀ ls', RegOk E σ n S nx ss am ls' σc → Goes E D σ n (i + 1) S l pl ⟨putE e d v, nx, ss, ks, am, ls'⟩ env σ') :
    Goes E D σ n i S (⟨d, o, none⟩ :: l) (⟨anc, lk⟩ :: pl) ⟨e, nx, ss, ks, am, ls⟩ env σ' := by
  obtain ⟨⟨hn, r, rfl⟩, h2, h3, h4, h5, h6⟩ := hr
  obtain ⟨s', k1, k2, k3⟩ := k ((i, o, restr lk e, v) :: ls) ⟨⟨hn, r, rfl⟩, h2, h3, h4, h5, fun x hx => by
    rcases List.mem_cons.1 hx with rfl | hx
    · exact hv
    · exact h6 x hx⟩
  exact ⟨s', (dl v hc (hv.2 nx σc.bl _ (h4 _ List.mem_cons_self))).trans k1, k2, k3⟩
theorem go_a (v : V) (b : Blk) (am' : Nat) (hr : RegOk E σ n S nx ss am ls σc) (hc : o.cls = .a) (hi : i < n) (ham : am ||| 2 ^ i = am') (hv : aopA o (restr lk e) (σ.next + i) = some (v, b))
    (k : ∀ ss', RegOk E σ n S nx ss' am' ls ⟨σc.next, (σ.next + i, b) :: σc.bl⟩ → Goes E D σ n (i + 1) S l pl ⟨putE e d v, nx, ss', ks, am', ls⟩ env σ') :
    Goes E D σ n i S (⟨d, o, none⟩ :: l) (⟨anc, lk⟩ :: pl) ⟨e, nx, ss, ks, am, ls⟩ env σ' := by
  obtain ⟨⟨hn, r, rfl⟩, h2, h3, h4, h5, h6⟩ := hr
  subst ham
  suffices hr' : RegOk E σ n S nx ((σc.bl :: r).map ((σ.next + i, b) :: ·)) (am ||| 2 ^ i) ls ⟨σc.next, (σ.next + i, b) :: σc.bl⟩ by
    obtain ⟨s', k1, k2, k3⟩ := k _ hr'
    exact ⟨s', (da v b (σ.next + i) _ hc rfl rfl hv).trans k1, k2, k3⟩
  refine ⟨⟨hn, _, rfl⟩, h2, ⟨fun c hc => ?_, h3.le, fun c hc hS => ?_⟩, fun h hh id hid hS => ?_, fun h hh j hj hb => ?_, h6⟩
  · have hc : σc.next ≤ c := hc
    show lookF ((σ.next + i, b) :: σc.bl) c = none
    rw [lookF_cons, if_neg (by simp only []; omega)]; exact h3.tidy c hc
  · show lookF ((σ.next + i, b) :: σc.bl) c = _
    rw [lookF_cons, if_neg (by simp only []; omega)]; exact h3.same c hc hS
  · obtain ⟨h', hh', rfl⟩ := List.mem_map.1 hh
    rw [look_cons_ne (by omega)]; exact h4 _ hh' id hid hS
  · obtain ⟨h', hh', rfl⟩ := List.mem_map.1 hh
    rw [Nat.testBit_or, Bool.or_eq_false_iff] at hb
    have hne : i ≠ j := fun he => by
      subst he
      have := hb.2
      rw [Nat.testBit_two_pow_self] at this
      cases this
    rw [look_cons_ne (by omega)]; exact h5 _ hh' j hj hb.1
theorem go_k (v : V) {σ2 : H} (hr : RegOk E σ n S nx ss am ls σc) (hc : o.cls = .k) (hva : ∀ j, j < n → am.testBit j = true → anc.testBit j = true) {S' : Nat → Prop} (hf : Fr S' σc σ2) (hS : ∀ b, b < σ.next → S' b → S b) (hg : ∀ b, S' b → σ.next ≤ b → b < σ.next + n → False) (hv : den1 E D o (restr lk e) σc = some (v, σ2))
    (k : ∀ nx' ss' ks', RegOk E σ n S nx' ss' am ls σ2 → Goes E D σ n (i + 1) S l pl ⟨putE e d v, nx', ss', ks', am, ls⟩ env σ') :
    Goes E D σ n i S (⟨d, o, none⟩ :: l) (⟨anc, lk⟩ :: pl) ⟨e, nx, ss, ks, am, ls⟩ env σ' := by
  obtain ⟨⟨hn, r, rfl⟩, h2, h3, h4, h5, h6⟩ := hr
  subst hn
  have le := hf.le
  have f02 : Fr S σ σ2 := h3.trans hf hS
  suffices hr' : RegOk E σ n S σ2.next (σ2.bl :: σc.bl :: r) am ls σ2 by
    obtain ⟨s', k1, k2, k3⟩ := k σ2.next (σ2.bl :: σc.bl :: r) (i :: ks) hr'
    refine ⟨s', (dk v σ2.next σ2.bl hc (hide_keep fun j hj hp => ?_) hv).trans k1, k2, k3⟩
    refine h5 _ List.mem_cons_self j hj ?_
    cases ha : am.testBit j with
    | false => rfl
    | true =>
      exfalso
      unfold visK at hp
      rw [ha, hva j hj ha] at hp
      cases hp
  refine ⟨⟨rfl, _, rfl⟩, by omega, f02, fun h hh id hid hS => ?_, fun h hh j hj hb => ?_, h6⟩
  · rcases List.mem_cons.1 hh with rfl | hh
    · rw [← lookF_eq, ← lookF_eq]; exact f02.same id hid hS
    · exact h4 _ hh id hid hS
  · rcases List.mem_cons.1 hh with rfl | hh
    · have := hf.same (σ.next + j) (by omega) (fun hs => hg _ hs (by omega) (by omega))
      rw [← lookF_eq, this, lookF_eq]
      exact h5 _ List.mem_cons_self j hj hb
    · exact h5 _ hh j hj hb
/-- Nothing has happened yet. -/
theorem go_start (ht : Tidy σ) : RegOk E σ n S (σ.next + n) [σ.bl] 0 [] ⟨σ.next + n, σ.bl⟩ :=
  ⟨⟨rfl, [], rfl⟩, Nat.le_refl _, ⟨ht.wide n, Nat.le_add_right _ _, fun _ _ _ => rfl⟩, fun h hh id hid _ => by rw [List.mem_singleton.1 hh], fun h hh i hi _ => by
    rw [List.mem_singleton.1 hh]; exact ht.gap n _ (by omega) (by omega), fun x hx => by cases hx⟩
theorem check_all {op : AOp} {em : Env} {v : V} {j : Nat} (hv : OldLd E σ n S op em v) : ∀ (ss : List (List (Nat × Blk))) (ks more : List Nat), (∀ h ∈ ss, ∀ id, id < σ.next → ¬ S id → look h id = look σ.bl id) → checkL E σ.next n pl am j op em v ss ks more = true
  | [], _, _, _ => by unfold checkL; rfl
  | h :: ss, ks, more, ho => by
    unfold checkL
    rw [hv.2 0 h _ (ho h List.mem_cons_self)]
    simp only [hv.1, Bool.or_true, Bool.true_and]
    cases ks with
    | nil => rfl
    | cons k ks => exact check_all hv ss ks (k :: more) fun h' hh => ho h' (List.mem_cons_of_mem _ hh)
/-- The whole region. -/
theorem go_draw {ops : List AOper} (h : Goes E D σ ops.length 0 S ops pl ⟨e, σ.next + ops.length, [σ.bl], [], 0, []⟩ env σ') : drawW E D ops pl e σ = some (env, σ') ∧ Fr S σ σ' := by
  obtain ⟨s', h1, rfl, ⟨hn, r, hs⟩, _, h3, h4, h5, h6⟩ := h
  refine ⟨?_, h3⟩
  rw [drawW_of h1 (List.all_eq_true.2 fun x hx => check_all (h6 x hx) _ _ _ h4) hs]
  have := (hide_keep (n0 := σ.next) (n := ops.length) (p := fun k => s'.am.testBit k) (l := σ'.bl) fun i hi hp => h5 _ (by rw [hs]; exact List.mem_cons_self) i hi hp).1
  rw [this, hn]
/-- Loads of old blocks. -/
theorem old_ld1 {x : AO} {em : Env} {b off : Nat} {c : List V} {v : V} (hx : opv em x = .ptr b off) (ha : Atc σ b c) (hv : c[off]? = some v) (ht : Tidy σ) (hS : ¬ S b) (hb : V.beq v v = true) : OldLd E σ n S (.load none x) em v :=
  ⟨hb, fun nx h p ho => load_of hx (by
    have lt := ha.lt ht
    rw [look_hide_old lt, ho b lt hS, ← lookF_eq]; exact ha) hv⟩
theorem loadn_of {x : AO} {e : Env} {b off nx n : Nat} {h : List (Nat × Blk)} {c : List V} (hx : opv e x = .ptr b off) (hl : look h b = some (.cells c)) (hv : Nat.ble (off + n) c.length = true) :
    aopL E (.load (some n) x) e ⟨nx, h⟩ = some (.agg ((c.drop off).take n)) := by
  unfold aopL
  simp only [hx, rdN, rd, hl]
  rw [if_pos hv]
theorem old_ldn {x : AO} {em : Env} {b off m : Nat} {c c' : List V} (hx : opv em x = .ptr b off) (ha : Atc σ b c) (hv : Nat.ble (off + m) c.length = true) (hc : (c.drop off).take m = c') (ht : Tidy σ) (hS : ¬ S b) (hb : V.beq (.agg c') (.agg c') = true) : OldLd E σ n S (.load (some m) x) em (.agg c') :=
  ⟨hb, fun nx h p ho => by
    have lt := ha.lt ht
    rw [← hc]
    exact loadn_of hx (by rw [look_hide_old lt, ho b lt hS, ← lookF_eq]; exact ha) hv⟩
theorem build1 {ty : TypeId} {x : AO} {em : Env} {id : Nat} {u : V} (hx : opv em x = u) (h : u.one = true) : aopA (.buildSlice ty 1 [.nils] [(0, 1, x)]) em id = some (.sl id 0 1 (.ex 1), .cells [u]) := by
  have h12 : u.live = true ∧ u.cells = [u] := by cases u <;> first | exact ⟨rfl, rfl⟩ | cases h
  show (match fillA [(0, 1, opv em x)] [V.nils] with
    | some l => if allOne l then some (V.sl id 0 1 (.ex 1), Blk.cells l) else none
    | none => none) = _
  rw [hx]
  unfold fillA
  rw [h12.1, h12.2]
  show (if (u.one && true) = true then _ else none) = _
  rw [h]; rfl
end
section
variable {E : List (Nat × Blk)} {D : Den} {σ : H}
theorem live_of {v : V} (h : v.one = true) : v.live = true := by cases v <;> first | rfl | cases h
theorem call_of {f : FuncId} {args : List AO} {e : Env} {vs : List V} {r : Ans} (hx : opvs e args = vs) (hl : vs.all V.live = true) (g : D f vs σ = r) : den1 E D (.call f args) e σ = r := by
  show (if (opvs e args).all V.live then D f (opvs e args) σ else none) = r
  rw [hx, hl]; exact g
theorem mov_of {x : AO} {e : Env} {v : V} (hx : opv e x = v) (hl : v.live = true) : aopP (.mov x) e = some v := by
  show (if (opv e x).live = true then some (opv e x) else none) = _
  rw [hx, hl]; rfl
end
theorem getL_of {e : Env} {t : Nat} {v : V} {κ : V → Ans} (h : Go.Og.look e t = some v) (hl : v.live = true) : getL e t κ = κ v := by
  unfold getL
  rw [h]
  exact chk_true hl
/-- Append, in a region: as in a plain function. -/
theorem app_den {E : List (Nat × Blk)} {D : Den} {σ σ' : H} {el esz bytes : Nat} {s x : AO} {e : Env} {v y u : V} (hs : opv e s = v) (hx : opv e x = y) (g : ∀ κ : V → H → Ans, appK E esz bytes v y σ κ = κ u σ') : den1 E D (.append el esz bytes s x) e σ = some (u, σ') := by
  show appendV E esz bytes (opv e s) (opv e x) σ = _
  rw [hs, hx]
  obtain ⟨w, σ1, h1, h2⟩ := appK_some (g fun v σ => some (v, σ))
  rw [h1]
  exact h2
/-! ### values that equal themselves -/
mutual
theorem beq_self : ∀ v : V, V.inn (fun _ => true) v = true → V.beq v v = true
  | .dead, h => by simp [V.inn] at h
  | .ptr b o, _ => by simp [V.beq]
  | .sl b o n (.ex c), _ => by simp [V.beq]
  | .sl b o n (.op c), _ => by simp [V.beq]
  | .sle b o k e, _ => by simp [V.beq]
  | .mp b, _ => by simp [V.beq]
  | .bool b, _ => by simp [V.beq]
  | .int k n, _ => by simp [V.beq]
  | .str s, _ => by simp [V.beq]
  | .nilp, _ => rfl
  | .nils, _ => rfl
  | .nilm, _ => rfl
  | .nilf, _ => rfl
  | .nili, _ => rfl
  | .fn f a c, h => by
    simp only [V.inn, Bool.and_eq_true] at h
    simp [V.beq, beqs_self a h.1, beqs_self c h.2]
  | .ifc t v, h => by
    simp only [V.inn] at h
    simp [V.beq, beq_self v h]
  | .agg l, h => by
    simp only [V.inn] at h
    simp [V.beq, beqs_self l h]
  | .tup l, h => by
    simp only [V.inn] at h
    simp [V.beq, beqs_self l h]
theorem beqs_self : ∀ l : List V, inns (fun _ => true) l = true → beqs l l = true
  | [], _ => rfl
  | v :: l, h => by
    simp only [inns, Bool.and_eq_true] at h
    simp [beqs, beq_self v h.1, beqs_self l h.2]
end
end
end Go.Og
set_option linter.all false
namespace Go.Og
noncomputable section
/-- The j-th octet of a number, from the lowest one on. -/
def byteAt (v : Int) (j : Nat) : Int := (v / 2 ^ (8 * j)) % 256
/-- So many octets, the highest first. -/
def octBE (v : Int) : Nat → List Int
  | 0 => []
  | n + 1 => byteAt v n :: octBE v n
theorem octBE_length (v : Int) : ∀ n, (octBE v n).length = n
  | 0 => rfl
  | n + 1 => by simp [octBE, octBE_length v n]
theorem octBE_get (v : Int) : ∀ {n i : Nat}, i < n → (octBE v n)[i]? = some (byteAt v (n - 1 - i))
  | n + 1, 0, _ => rfl
  | n + 1, i + 1, h => by
    have := octBE_get v (n := n) (i := i) (by omega)
    simp only [octBE, List.getElem?_cons_succ, this]
    congr 2; omega
/-- Whether so many octets are enough. -/
def enough (v : Int) (n : Nat) : Bool := decide (v / 2 ^ (8 * n - 1) = 0) || decide (v / 2 ^ (8 * n - 1) = -1)
def lenS (v : Int) : Nat := if enough v 1 = true then 1 else if enough v 2 = true then 2 else if enough v 3 = true then 3 else if enough v 4 = true then 4 else if enough v 5 = true then 5 else if enough v 6 = true then 6 else if enough v 7 = true then 7 else 8
theorem lenS_range (v : Int) : 1 ≤ lenS v ∧ lenS v ≤ 8 := by
  unfold lenS
  repeat' split
  all_goals omega
theorem lenS_less (v : Int) {n : Nat} (h1 : 1 ≤ n) (h2 : n < lenS v) : enough v n = false := by
  unfold lenS at h2
  repeat' split at h2
  all_goals first
    | omega
    | (have : n = 1 ∨ n = 2 ∨ n = 3 ∨ n = 4 ∨ n = 5 ∨ n = 6 ∨ n = 7 := by omega
       rcases this with rfl | rfl | rfl | rfl | rfl | rfl | rfl <;> first | omega | simp_all)
theorem lenS_at (v : Int) (h : lenS v < 8) : enough v (lenS v) = true := by
  unfold lenS at h ⊢
  repeat' split
  all_goals first | assumption | (exfalso; simp_all)
def In64i (v : Int) : Prop := -9223372036854775808 ≤ v ∧ v ≤ 9223372036854775807
theorem lenS_enough {v : Int} (hv : In64i v) : enough v (lenS v) = true := by
  have hr := lenS_range v
  rcases Nat.lt_or_ge (lenS v) 8 with h | h
  · exact lenS_at v h
  · have e : lenS v = 8 := by omega
    rw [e]
    unfold enough
    simp only [show (2 : Int) ^ (8 * 8 - 1) = 9223372036854775808 from rfl, Bool.or_eq_true, decide_eq_true_eq]
    obtain ⟨h1, h2⟩ := hv
    omega
theorem fdiv_pow (a : Int) (n : Nat) : a.fdiv (2 ^ n) = a / 2 ^ n := Int.fdiv_eq_ediv_of_nonneg _ (Int.le_of_lt (Int.pow_pos (by decide)))
theorem shr_i64 (v : Int) {n : Nat} (h : n ≤ 64) : shrF .i64 v n = v / 2 ^ n := by
  rw [shrF_eq, show Nat.min n (IntKind.bits .i64) = n from Nat.min_eq_left h, fdiv_pow]
theorem shr_u64 (v : Int) {n : Nat} (h : n ≤ 64) : shrF .u64 v n = v / 2 ^ n := by
  rw [shrF_eq, show Nat.min n (IntKind.bits .u64) = n from Nat.min_eq_left h, fdiv_pow]
theorem wrap_u8 (v : Int) : wrapF .u8 v = v % 256 := by rw [wrapF_eq]; rfl
theorem wrap_u64 (v : Int) : wrapF .u64 v = v % 18446744073709551616 := by rw [wrapF_eq]; rfl
/-- An octet, as the program takes it. -/
theorem byte_u64 (v : Int) {j : Nat} (h : j < 8) : wrapF .u8 (shrF .u64 (wrapF .u64 v) (8 * j)) = byteAt v j := by
  rw [shr_u64 _ (by omega), wrap_u8, wrap_u64]
  unfold byteAt
  have : j = 0 ∨ j = 1 ∨ j = 2 ∨ j = 3 ∨ j = 4 ∨ j = 5 ∨ j = 6 ∨ j = 7 := by omega
  rcases this with rfl | rfl | rfl | rfl | rfl | rfl | rfl | rfl
  · simp only [show (2 : Int) ^ (8 * 0) = 1 from rfl]; omega
  · simp only [show (2 : Int) ^ (8 * 1) = 256 from rfl]; omega
  · simp only [show (2 : Int) ^ (8 * 2) = 65536 from rfl]; omega
  · simp only [show (2 : Int) ^ (8 * 3) = 16777216 from rfl]; omega
  · simp only [show (2 : Int) ^ (8 * 4) = 4294967296 from rfl]; omega
  · simp only [show (2 : Int) ^ (8 * 5) = 1099511627776 from rfl]; omega
  · simp only [show (2 : Int) ^ (8 * 6) = 281474976710656 from rfl]; omega
  · simp only [show (2 : Int) ^ (8 * 7) = 72057594037927936 from rfl]; omega
/-- An octet, as the reference takes it: of a number that was moved down. -/
theorem byte_i64 (v : Int) (j : Nat) : wrapF .u8 (v / 2 ^ (8 * j)) = byteAt v j := wrap_u8 _
theorem down8 (v : Int) (j : Nat) : shrF .i64 (v / 2 ^ (8 * j)) 8 = v / 2 ^ (8 * (j + 1)) := by
  rw [shr_i64 _ (by decide), Int.ediv_ediv_of_nonneg (Int.le_of_lt (Int.pow_pos (by decide))), ← Int.pow_add, Nat.mul_add]
/-- The reference's question. -/
theorem small_iff (v : Int) {n : Nat} (h1 : 1 ≤ n) : enough v n = (decide (-128 ≤ v / 2 ^ (8 * (n - 1))) && decide (v / 2 ^ (8 * (n - 1)) ≤ 127)) := by
  have e : v / 2 ^ (8 * n - 1) = v / 2 ^ (8 * (n - 1)) / 128 := by
    rw [show (128 : Int) = 2 ^ 7 from rfl, Int.ediv_ediv_of_nonneg (Int.le_of_lt (Int.pow_pos (by decide))), ← Int.pow_add]
    congr 2; omega
  unfold enough
  rw [e]
  generalize v / 2 ^ (8 * (n - 1)) = x
  rw [Bool.eq_iff_iff]
  simp only [Bool.or_eq_true, Bool.and_eq_true, decide_eq_true_eq]
  omega
theorem spl_at : ∀ (a : List V) (x : V) (r : List V) (c : V), spl (a ++ x :: r) a.length [c] = a ++ c :: r
  | [], x, r, c => by cases r <;> simp [spl]
  | y :: a, x, r, c => by
    show y :: spl (a ++ x :: r) a.length [c] = _
    rw [spl_at a x r c]; rfl
def u8s (l : List Int) : List V := l.map fun c => .int .u8 c
theorem u8s_length (l : List Int) : (u8s l).length = l.length := by simp [u8s]
theorem u8s_app (l m : List Int) : u8s (l ++ m) = u8s l ++ u8s m := by simp [u8s]
theorem u8s_one : ∀ l : List Int, allOne (u8s l) = true
  | [] => rfl
  | c :: l => u8s_one l
theorem u8s_bytes : ∀ l : List Int, bytesOf (u8s l) = some (l.map fun c => UInt8.ofNat c.toNat)
  | [] => rfl
  | c :: l => by
    show (bytesOf (u8s l)).map _ = _
    rw [u8s_bytes l]; rfl
/-- Octets that are read. -/
def By (σ : H) (v : V) (l : List Int) : Prop := Src σ 1 l.length v (u8s l)
/-- Octets in a block that was not there before: they may be lengthened. -/
def Nb (σ0 σ : H) (v : V) (l : List Int) : Prop := Dst σ 1 l.length v (u8s l) ∧ ∀ b, Names v b → σ0.next ≤ b
theorem Nb.by_ {σ0 σ : H} {v : V} {l : List Int} (h : Nb σ0 σ v l) : By σ v l := h.1.src
theorem By.one {σ : H} {v : V} {l : List Int} (h : By σ v l) : v.one = true := Src.one h
theorem By.slen {σ : H} {v : V} {l : List Int} (h : By σ v l) (κ : Nat → Ans) : slenK v κ = κ l.length := Src.slen h
theorem By.fr {σ σ' : H} {v : V} {l : List Int} (h : By σ v l) (f : Fr Nowhere σ σ') (ht : Tidy σ) : By σ' v l := Src.fr h f ht (fun _ _ h => h)
theorem Nb.fr {σ0 σ σ' : H} {v : V} {l : List Int} (h : Nb σ0 σ v l) (f : Fr Nowhere σ σ') (ht : Tidy σ) : Nb σ0 σ' v l := ⟨h.1.fr f ht (fun _ _ h => h), h.2⟩
theorem Nb.mono {σ0 σ1 σ : H} {v : V} {l : List Int} (h : Nb σ1 σ v l) (hl : σ0.next ≤ σ1.next) : Nb σ0 σ v l := ⟨h.1, fun b hb => Nat.le_trans hl (h.2 b hb)⟩
theorem Nb.nil (σ0 σ : H) : Nb σ0 σ .nils [] := ⟨Dst.nil σ 1, fun _ h => h.elim⟩
theorem Nb.lit {σ0 σ : H} {b : Nat} {l : List Int} (ha : Atc σ b (u8s l)) (hb : σ0.next ≤ b) : Nb σ0 σ (.sl b 0 l.length (.ex l.length)) l :=
  ⟨.inr ⟨b, rfl, ha, by rw [u8s_length, Nat.mul_one]⟩, fun c hc => by cases hc; exact hb⟩
theorem By.str {E : List (Nat × Blk)} {σ : H} {v : V} {l : List Int} (h : By σ v l) (κ : BS → Ans) : toStrK E σ v κ = κ (BS.ofList (l.map fun c => UInt8.ofNat c.toNat)) := by
  have hs : ∀ κ', srcK E σ 1 v κ' = κ' l.length (u8s l) := fun κ' => Src.srcK h
  unfold toStrK
  rcases h with ⟨_, rfl, _⟩ | ⟨_, _, _, _, rfl, _⟩
  · simp only []; rw [hs, u8s_bytes]
  · simp only []; rw [hs, u8s_bytes]
/-- Appending octets to new ones. -/
theorem app_by {E : List (Nat × Blk)} {σ0 σ : H} {v x : V} {l m : List Int} (h : Nb σ0 σ v l) (f0 : Fr Nowhere σ0 σ) (hx : By σ x m) (hs : l.length + m.length ≤ 10000000) :
    ∃ u σ', (∀ κ : V → H → Ans, appK E 1 1 v x σ κ = κ u σ') ∧ Nb σ0 σ' u (l ++ m) ∧ Fr Nowhere σ0 σ' ∧ Fr (fun b => σ0.next ≤ b) σ σ' := by
  obtain ⟨u, σ', g, d, n, f⟩ := app_all (E := E) (bytes := 1) h.1 f0.tidy hx (u8s_one m) (by
    unfold growable
    simp only [Nat.mul_one, Bool.and_eq_true, Nat.ble_eq]; omega)
  have hle := f0.le
  refine ⟨u, σ', g, ⟨by rw [List.length_append, u8s_app]; exact d, fun b hb => ?_⟩, f0.trans f (fun b hb hn => by have := h.2 b hn; omega), f.mono fun b _ hb => h.2 b hb⟩
  rcases n b hb with h' | h'
  · exact h.2 b h'
  · omega
theorem one_live {v : V} (h : v.one = true) : v.live = true ∧ v.cells = [v] := by
  cases v <;> first | exact ⟨rfl, rfl⟩ | cases h
theorem fill1 {u : V} (h : u.one = true) (κ : List V → Ans) : fillK [(0, 1, u)] [.nils] κ = κ [u] := by
  obtain ⟨h1, h2⟩ := one_live h
  unfold fillK fillA
  rw [h1, h2]
  rfl
theorem fill2 {u w : V} (h : u.one = true) (k : w.one = true) (κ : List V → Ans) : fillK [(0, 1, u), (1, 1, w)] [.nils, .nils] κ = κ [u, w] := by
  obtain ⟨h1, h2⟩ := one_live h
  obtain ⟨k1, k2⟩ := one_live k
  unfold fillK fillA fillA
  rw [h1, h2, k1, k2]
  rfl
end
end Go.Og
set_option linter.all false
set_option maxRecDepth 100000
set_option maxHeartbeats 0
namespace Go.Proofs.YtpbdnlclihogfaaGreatDoor
open Go Go.Og
noncomputable section
def iN (n : Nat) : V := .int .i64 (Int.ofNat n)
def oN : V := .bool false
def eN : V := .bool true
def zN : V := .nils
def tx0_0 : BS := ⟨87, 87719113101672642566008238483179426975950255553505678118866311861257464305813618771358802175998881037275741766956488776474854059769886545147215504433908175042511694558720996600092140601550745054408555486257229⟩
def tx0_1 : BS := ⟨110, 2150866394832382303555773229508768457088420824410604000398585707740440499999839939384021215311330022723829001446209946816372083435479302299512581020985042893362626169880040247129880050756724025670638461271643809175358187413919472523687166724999335258791420251873357⟩
def tx0_2 : BS := ⟨135, 3456309037974333606987713801727077731348108621530181562139663714843868706489648878248834181280930451194466147116810256011573041643043544177895557984618422055948551214613365146642530393615975625512272667406973318773178568035159727798373786968592855270412462773441768646022324872409107661922635333419244870159888787399539695693⟩
def tx0_3 : BS := ⟨160, 5554074485837147798719448130392844701044381067895444720269274885345702006786860274711710239763679553754678080689305984608814483734752599848256182680303844414994814417464750302751949080855337715003153948194912462311387606952602785748914769416138634491350972717826547686602123491835551297204551517624251151086254215929412131220675625099493557681274407847497249644392474997674115720290381⟩
def tx0_4 : BS := ⟨185, 8925053591939903267680680026381896833128256022889992668774806572614266838951571398929633814430193139767209269182715876448440350322180905672933031309690475956555460915812373100607337056142322038202300061140187741193780129535117498544599625778405806740038314774489019458955482277996562899828194620916190237412906458566125220539480949992419605184606280143667081300436786098142594801476466663590159028061032348082478984433204596225012189336864825421⟩
def tx0_5 : BS := ⟨210, 14342008163938584411519294427898770450562779517281257654478952411981690092173945584031583443258845221647799743139898015258377353132717994131556255106222294228376426114794991464670265395144250508702879605026754572016684610558803744334055350008962110628086085431965864158932421860304577457885885903248075009211366190876927230678969156661235116026245305981587704816299778702623153877655746989450001417620587761507020669368660750253362835772181571104052081130491081446577661203342615498581657015130239428468813⟩
def eT0 : Few := ⟨100, [.str tx0_0],
  [],
  .tup [.agg [.str ⟨1, 77⟩, .sl 207 0 2 (.op 1), .sl 301 0 2 (.op 1), .sl 299 0 3 (.op 13)], eN], 314,
  [(207, .cells [.str ⟨1, 65⟩, .str ⟨1, 66⟩]),
  (224, .cells [iN 0, iN 16]),
  (270, .cells [iN 0, iN 16]),
  (287, .cells [iN 0, iN 2]),
  (299, .cells [iN 7, .sl 224 0 1 (.ex 1), oN, oN, oN, oN, iN 0, iN 0, zN, zN, iN 0, oN, iN 0, iN 10, .sl 270 0 1 (.ex 1), oN, oN, oN, oN, iN 0, iN 0, zN, zN, iN 0, oN, iN 2, iN 2, .sl 287 0 1 (.ex 1), oN, oN, oN, oN, iN 0, iN 0, zN, zN, iN 0, oN, iN 0]),
  (301, .cells [iN 0, iN 1])]⟩
theorem eT0_right : eT0.right 2 ((DT [] 100000 60) 14) = true := by kernel_rfl
theorem eT0_shape : eT0.shape = true := by kernel_rfl
def eT1 : Few := ⟨100, [.str tx0_1],
  [],
  .tup [.agg [.str ⟨1, 77⟩, .sl 244 0 2 (.op 1), .sl 379 0 2 (.op 1), .sl 377 0 4 (.op 13)], eN], 392,
  [(244, .cells [.str ⟨1, 65⟩, .str ⟨1, 66⟩]),
  (261, .cells [iN 0, iN 16]),
  (293, .cells [iN 2, iN 0]),
  (295, .cells [.str ⟨2, 12390⟩, iN 1, eN, oN, iN 0, iN 0, zN, zN, iN 0, zN, iN 0]),
  (348, .cells [iN 0, iN 16]),
  (365, .cells [iN 0, iN 2]),
  (377, .cells [iN 7, .sl 261 0 1 (.ex 1), oN, oN, oN, oN, iN 0, iN 0, zN, .sl 295 0 1 (.op 11), iN 1, oN, iN 0, iN 2, .sl 293 0 1 (.ex 1), oN, oN, oN, oN, iN 0, iN 0, zN, zN, iN 0, oN, iN 0, iN 10, .sl 348 0 1 (.ex 1), oN, oN, oN, oN, iN 0, iN 0, zN, zN, iN 0, oN, iN 3, iN 2, .sl 365 0 1 (.ex 1), oN, oN, oN, oN, iN 0, iN 0, zN, zN, iN 0, oN, iN 0]),
  (379, .cells [iN 0, iN 2])]⟩
theorem eT1_right : eT1.right 2 ((DT [] 100000 60) 14) = true := by kernel_rfl
theorem eT1_shape : eT1.shape = true := by kernel_rfl
def eT2 : Few := ⟨100, [.str tx0_2],
  [],
  .tup [.agg [.str ⟨1, 77⟩, .sl 284 0 2 (.op 1), .sl 478 0 2 (.op 1), .sl 476 0 5 (.op 13)], eN], 491,
  [(284, .cells [.str ⟨1, 65⟩, .str ⟨1, 66⟩]),
  (301, .cells [iN 0, iN 16]),
  (333, .cells [iN 2, iN 0]),
  (354, .cells [iN 2, iN 1]),
  (356, .cells [.str ⟨2, 12390⟩, iN 1, eN, oN, iN 0, iN 0, zN, zN, iN 0, zN, iN 0, .str ⟨2, 12646⟩, iN 2, eN, oN, iN 0, iN 0, zN, zN, iN 0, zN, iN 0]),
  (447, .cells [iN 0, iN 16]),
  (464, .cells [iN 0, iN 2]),
  (476, .cells [iN 7, .sl 301 0 1 (.ex 1), oN, oN, oN, oN, iN 0, iN 0, zN, .sl 356 0 2 (.op 11), iN 2, oN, iN 0, iN 2, .sl 333 0 1 (.ex 1), oN, oN, oN, oN, iN 0, iN 0, zN, zN, iN 0, oN, iN 0, iN 2, .sl 354 0 1 (.ex 1), oN, oN, oN, oN, iN 0, iN 0, zN, zN, iN 0, oN, iN 0, iN 10, .sl 447 0 1 (.ex 1), oN, oN, oN, oN, iN 0, iN 0, zN, zN, iN 0, oN, iN 4, iN 2, .sl 464 0 1 (.ex 1), oN, oN, oN, oN, iN 0, iN 0, zN, zN, iN 0, oN, iN 0]),
  (478, .cells [iN 0, iN 3])]⟩
theorem eT2_right : eT2.right 2 ((DT [] 100000 60) 14) = true := by kernel_rfl
theorem eT2_shape : eT2.shape = true := by kernel_rfl
def eT3 : Few := ⟨100, [.str tx0_3],
  [],
  .tup [.agg [.str ⟨1, 77⟩, .sl 324 0 2 (.op 1), .sl 595 0 2 (.op 1), .sl 593 0 6 (.op 13)], eN], 608,
  [(324, .cells [.str ⟨1, 65⟩, .str ⟨1, 66⟩]),
  (341, .cells [iN 0, iN 16]),
  (373, .cells [iN 2, iN 0]),
  (394, .cells [iN 2, iN 1]),
  (415, .cells [iN 2, iN 2]),
  (417, .cells [.str ⟨2, 12390⟩, iN 1, eN, oN, iN 0, iN 0, zN, zN, iN 0, zN, iN 0, .str ⟨2, 12646⟩, iN 2, eN, oN, iN 0, iN 0, zN, zN, iN 0, zN, iN 0, .str ⟨2, 12902⟩, iN 3, eN, oN, iN 0, iN 0, zN, zN, iN 0, zN, iN 0]),
  (564, .cells [iN 0, iN 16]),
  (581, .cells [iN 0, iN 2]),
  (593, .cells [iN 7, .sl 341 0 1 (.ex 1), oN, oN, oN, oN, iN 0, iN 0, zN, .sl 417 0 3 (.op 11), iN 3, oN, iN 0, iN 2, .sl 373 0 1 (.ex 1), oN, oN, oN, oN, iN 0, iN 0, zN, zN, iN 0, oN, iN 0, iN 2, .sl 394 0 1 (.ex 1), oN, oN, oN, oN, iN 0, iN 0, zN, zN, iN 0, oN, iN 0, iN 2, .sl 415 0 1 (.ex 1), oN, oN, oN, oN, iN 0, iN 0, zN, zN, iN 0, oN, iN 0, iN 10, .sl 564 0 1 (.ex 1), oN, oN, oN, oN, iN 0, iN 0, zN, zN, iN 0, oN, iN 5, iN 2, .sl 581 0 1 (.ex 1), oN, oN, oN, oN, iN 0, iN 0, zN, zN, iN 0, oN, iN 0]),
  (595, .cells [iN 0, iN 4])]⟩
theorem eT3_right : eT3.right 2 ((DT [] 100000 60) 14) = true := by kernel_rfl
theorem eT3_shape : eT3.shape = true := by kernel_rfl
def eT4 : Few := ⟨100, [.str tx0_4],
  [],
  .tup [.agg [.str ⟨1, 77⟩, .sl 364 0 2 (.op 1), .sl 730 0 2 (.op 1), .sl 728 0 7 (.op 13)], eN], 743,
  [(364, .cells [.str ⟨1, 65⟩, .str ⟨1, 66⟩]),
  (381, .cells [iN 0, iN 16]),
  (413, .cells [iN 2, iN 0]),
  (434, .cells [iN 2, iN 1]),
  (455, .cells [iN 2, iN 2]),
  (476, .cells [iN 2, iN 3]),
  (478, .cells [.str ⟨2, 12390⟩, iN 1, eN, oN, iN 0, iN 0, zN, zN, iN 0, zN, iN 0, .str ⟨2, 12646⟩, iN 2, eN, oN, iN 0, iN 0, zN, zN, iN 0, zN, iN 0, .str ⟨2, 12902⟩, iN 3, eN, oN, iN 0, iN 0, zN, zN, iN 0, zN, iN 0, .str ⟨2, 13158⟩, iN 4, eN, oN, iN 0, iN 0, zN, zN, iN 0, zN, iN 0]),
  (699, .cells [iN 0, iN 16]),
  (716, .cells [iN 0, iN 2]),
  (728, .cells [iN 7, .sl 381 0 1 (.ex 1), oN, oN, oN, oN, iN 0, iN 0, zN, .sl 478 0 4 (.op 11), iN 4, oN, iN 0, iN 2, .sl 413 0 1 (.ex 1), oN, oN, oN, oN, iN 0, iN 0, zN, zN, iN 0, oN, iN 0, iN 2, .sl 434 0 1 (.ex 1), oN, oN, oN, oN, iN 0, iN 0, zN, zN, iN 0, oN, iN 0, iN 2, .sl 455 0 1 (.ex 1), oN, oN, oN, oN, iN 0, iN 0, zN, zN, iN 0, oN, iN 0, iN 2, .sl 476 0 1 (.ex 1), oN, oN, oN, oN, iN 0, iN 0, zN, zN, iN 0, oN, iN 0, iN 10, .sl 699 0 1 (.ex 1), oN, oN, oN, oN, iN 0, iN 0, zN, zN, iN 0, oN, iN 6, iN 2, .sl 716 0 1 (.ex 1), oN, oN, oN, oN, iN 0, iN 0, zN, zN, iN 0, oN, iN 0]),
  (730, .cells [iN 0, iN 5])]⟩
theorem eT4_right : eT4.right 2 ((DT [] 100000 60) 14) = true := by kernel_rfl
theorem eT4_shape : eT4.shape = true := by kernel_rfl
def eT5 : Few := ⟨100, [.str tx0_5],
  [],
  .tup [.agg [.str ⟨1, 77⟩, .sl 404 0 2 (.op 1), .sl 883 0 2 (.op 1), .sl 881 0 8 (.op 13)], eN], 896,
  [(404, .cells [.str ⟨1, 65⟩, .str ⟨1, 66⟩]),
  (421, .cells [iN 0, iN 16]),
  (453, .cells [iN 2, iN 0]),
  (474, .cells [iN 2, iN 1]),
  (495, .cells [iN 2, iN 2]),
  (516, .cells [iN 2, iN 3]),
  (537, .cells [iN 2, iN 4]),
  (539, .cells [.str ⟨2, 12390⟩, iN 1, eN, oN, iN 0, iN 0, zN, zN, iN 0, zN, iN 0, .str ⟨2, 12646⟩, iN 2, eN, oN, iN 0, iN 0, zN, zN, iN 0, zN, iN 0, .str ⟨2, 12902⟩, iN 3, eN, oN, iN 0, iN 0, zN, zN, iN 0, zN, iN 0, .str ⟨2, 13158⟩, iN 4, eN, oN, iN 0, iN 0, zN, zN, iN 0, zN, iN 0, .str ⟨2, 13414⟩, iN 5, eN, oN, iN 0, iN 0, zN, zN, iN 0, zN, iN 0]),
  (852, .cells [iN 0, iN 16]),
  (869, .cells [iN 0, iN 2]),
  (881, .cells [iN 7, .sl 421 0 1 (.ex 1), oN, oN, oN, oN, iN 0, iN 0, zN, .sl 539 0 5 (.op 11), iN 5, oN, iN 0, iN 2, .sl 453 0 1 (.ex 1), oN, oN, oN, oN, iN 0, iN 0, zN, zN, iN 0, oN, iN 0, iN 2, .sl 474 0 1 (.ex 1), oN, oN, oN, oN, iN 0, iN 0, zN, zN, iN 0, oN, iN 0, iN 2, .sl 495 0 1 (.ex 1), oN, oN, oN, oN, iN 0, iN 0, zN, zN, iN 0, oN, iN 0, iN 2, .sl 516 0 1 (.ex 1), oN, oN, oN, oN, iN 0, iN 0, zN, zN, iN 0, oN, iN 0, iN 2, .sl 537 0 1 (.ex 1), oN, oN, oN, oN, iN 0, iN 0, zN, zN, iN 0, oN, iN 0, iN 10, .sl 852 0 1 (.ex 1), oN, oN, oN, oN, iN 0, iN 0, zN, zN, iN 0, oN, iN 7, iN 2, .sl 869 0 1 (.ex 1), oN, oN, oN, oN, iN 0, iN 0, zN, zN, iN 0, oN, iN 0]),
  (883, .cells [iN 0, iN 6])]⟩
theorem eT5_right : eT5.right 2 ((DT [] 100000 60) 14) = true := by kernel_rfl
theorem eT5_shape : eT5.shape = true := by kernel_rfl
def eAw : Few := ⟨100, [],
  [],
  eN, 235,
  []⟩
theorem eAw_right : eAw.right 2 ((DT [] 100000 60) 17) = true := by kernel_rfl
theorem eAw_shape : eAw.shape = true := by kernel_rfl
def eD0 : Few := ⟨100, [.int .u64 (Int.ofNat 0)],
  [],
  .str ⟨1, 48⟩, 101,
  []⟩
theorem eD0_right : eD0.right 2 ((DT [] 100000 60) 25) = true := by kernel_rfl
def eD1 : Few := ⟨100, [.int .u64 (Int.ofNat 1)],
  [],
  .str ⟨1, 49⟩, 101,
  []⟩
theorem eD1_right : eD1.right 2 ((DT [] 100000 60) 25) = true := by kernel_rfl
def eD2 : Few := ⟨100, [.int .u64 (Int.ofNat 2)],
  [],
  .str ⟨1, 50⟩, 101,
  []⟩
theorem eD2_right : eD2.right 2 ((DT [] 100000 60) 25) = true := by kernel_rfl
def eD3 : Few := ⟨100, [.int .u64 (Int.ofNat 3)],
  [],
  .str ⟨1, 51⟩, 101,
  []⟩
theorem eD3_right : eD3.right 2 ((DT [] 100000 60) 25) = true := by kernel_rfl
def eD4 : Few := ⟨100, [.int .u64 (Int.ofNat 4)],
  [],
  .str ⟨1, 52⟩, 101,
  []⟩
theorem eD4_right : eD4.right 2 ((DT [] 100000 60) 25) = true := by kernel_rfl
def eD5 : Few := ⟨100, [.int .u64 (Int.ofNat 5)],
  [],
  .str ⟨1, 53⟩, 101,
  []⟩
theorem eD5_right : eD5.right 2 ((DT [] 100000 60) 25) = true := by kernel_rfl
def eD6 : Few := ⟨100, [.int .u64 (Int.ofNat 6)],
  [],
  .str ⟨1, 54⟩, 101,
  []⟩
theorem eD6_right : eD6.right 2 ((DT [] 100000 60) 25) = true := by kernel_rfl
def eD7 : Few := ⟨100, [.int .u64 (Int.ofNat 7)],
  [],
  .str ⟨1, 55⟩, 101,
  []⟩
theorem eD7_right : eD7.right 2 ((DT [] 100000 60) 25) = true := by kernel_rfl
def eD8 : Few := ⟨100, [.int .u64 (Int.ofNat 8)],
  [],
  .str ⟨1, 56⟩, 101,
  []⟩
theorem eD8_right : eD8.right 2 ((DT [] 100000 60) 25) = true := by kernel_rfl
def eD9 : Few := ⟨100, [.int .u64 (Int.ofNat 9)],
  [],
  .str ⟨1, 57⟩, 101,
  []⟩
theorem eD9_right : eD9.right 2 ((DT [] 100000 60) 25) = true := by kernel_rfl
end
end Go.Proofs.YtpbdnlclihogfaaGreatDoor
set_option linter.all false
set_option maxRecDepth 100000
set_option maxHeartbeats 0
namespace Go.Proofs.YtpbdnlclihogfaaGreatDoor
open Go Go.Og
noncomputable section
def tx1_0 : BS := ⟨235, 23046718549705940816579229868980035447309377180460843285377793821685619471028097572739608171427047092204712405930845633188467394206613912584555628700004540992547002981134142750497362461346603526436209700408021890126135042790230530970440365764115250697336146989878656753553975241361077589131272322742300458799159043950901553442911688603415651618107903537377612111540606045825352604954845592642805454224114381250772005841095934971454076211735111189913626663492764232284349011500885735313634752346932517179110673502322643177025878360281462659130858703762923712250388557⟩
def tx1_1 : BS := ⟨260, 37034648832851857298499981004701249889601227210145734574372765578267413944010805385021466318543968531184659039416459837910533568182226779257758803121195337621166830234430324330893206166817541590695629588544228727597160298714717984868525026389816111176333802836694180294371967916873730796660213730861541068970493475409889672363911543929209309768390994603388139607217332082375829646023723395520850110691095181512857973716011604309907063455843158837269253336667104501150962708886403933943373249992865848803657022243013130583276946783499645153808322104937016233357800996237654830889201139923047988573188640964834328156660553752653⟩
def tx1_2 : BS := ⟨285, 59512386165281460414838790936303636556745490372789454960220859149727793420463024338395395807673547777237552774085735592634775087675382572059095211362110295351082462817906833495216867336324874788777922263177662576516865722289572558918104730965078934705920984434807515178255825692860075314437772376235687681225744947714719410640783059152568837962258923964936909548078770088147364470968203926500765121497490700973484659847311453736306731466506275678248270687245676198856061104028523843413042538066717558649939536002878638378317847960213805614946847357894495748878195663563480366824822808695587592247597987137742337810391570467756420619476717504440827018992692571916778502351066309945729101⟩
def eT6 : Few := ⟨100, [.str tx1_0],
  [],
  .tup [.agg [.str ⟨1, 77⟩, .sl 444 0 2 (.op 1), .sl 1054 0 2 (.op 1), .sl 1052 0 9 (.op 13)], eN], 1067,
  [(444, .cells [.str ⟨1, 65⟩, .str ⟨1, 66⟩]),
  (461, .cells [iN 0, iN 16]),
  (493, .cells [iN 2, iN 0]),
  (514, .cells [iN 2, iN 1]),
  (535, .cells [iN 2, iN 2]),
  (556, .cells [iN 2, iN 3]),
  (577, .cells [iN 2, iN 4]),
  (598, .cells [iN 2, iN 5]),
  (600, .cells [.str ⟨2, 12390⟩, iN 1, eN, oN, iN 0, iN 0, zN, zN, iN 0, zN, iN 0, .str ⟨2, 12646⟩, iN 2, eN, oN, iN 0, iN 0, zN, zN, iN 0, zN, iN 0, .str ⟨2, 12902⟩, iN 3, eN, oN, iN 0, iN 0, zN, zN, iN 0, zN, iN 0, .str ⟨2, 13158⟩, iN 4, eN, oN, iN 0, iN 0, zN, zN, iN 0, zN, iN 0, .str ⟨2, 13414⟩, iN 5, eN, oN, iN 0, iN 0, zN, zN, iN 0, zN, iN 0, .str ⟨2, 13670⟩, iN 6, eN, oN, iN 0, iN 0, zN, zN, iN 0, zN, iN 0]),
  (1023, .cells [iN 0, iN 16]),
  (1040, .cells [iN 0, iN 2]),
  (1052, .cells [iN 7, .sl 461 0 1 (.ex 1), oN, oN, oN, oN, iN 0, iN 0, zN, .sl 600 0 6 (.op 11), iN 6, oN, iN 0, iN 2, .sl 493 0 1 (.ex 1), oN, oN, oN, oN, iN 0, iN 0, zN, zN, iN 0, oN, iN 0, iN 2, .sl 514 0 1 (.ex 1), oN, oN, oN, oN, iN 0, iN 0, zN, zN, iN 0, oN, iN 0, iN 2, .sl 535 0 1 (.ex 1), oN, oN, oN, oN, iN 0, iN 0, zN, zN, iN 0, oN, iN 0, iN 2, .sl 556 0 1 (.ex 1), oN, oN, oN, oN, iN 0, iN 0, zN, zN, iN 0, oN, iN 0, iN 2, .sl 577 0 1 (.ex 1), oN, oN, oN, oN, iN 0, iN 0, zN, zN, iN 0, oN, iN 0, iN 2, .sl 598 0 1 (.ex 1), oN, oN, oN, oN, iN 0, iN 0, zN, zN, iN 0, oN, iN 0, iN 10, .sl 1023 0 1 (.ex 1), oN, oN, oN, oN, iN 0, iN 0, zN, zN, iN 0, oN, iN 8, iN 2, .sl 1040 0 1 (.ex 1), oN, oN, oN, oN, iN 0, iN 0, zN, zN, iN 0, oN, iN 0]),
  (1054, .cells [iN 0, iN 7])]⟩
theorem eT6_right : eT6.right 2 ((DT [] 100000 60) 14) = true := by kernel_rfl
theorem eT6_shape : eT6.shape = true := by kernel_rfl
def eT7 : Few := ⟨100, [.str tx1_1],
  [],
  .tup [.agg [.str ⟨1, 77⟩, .sl 484 0 2 (.op 1), .sl 1243 0 2 (.op 1), .sl 1241 0 10 (.op 13)], eN], 1256,
  [(484, .cells [.str ⟨1, 65⟩, .str ⟨1, 66⟩]),
  (501, .cells [iN 0, iN 16]),
  (533, .cells [iN 2, iN 0]),
  (554, .cells [iN 2, iN 1]),
  (575, .cells [iN 2, iN 2]),
  (596, .cells [iN 2, iN 3]),
  (617, .cells [iN 2, iN 4]),
  (638, .cells [iN 2, iN 5]),
  (659, .cells [iN 2, iN 6]),
  (661, .cells [.str ⟨2, 12390⟩, iN 1, eN, oN, iN 0, iN 0, zN, zN, iN 0, zN, iN 0, .str ⟨2, 12646⟩, iN 2, eN, oN, iN 0, iN 0, zN, zN, iN 0, zN, iN 0, .str ⟨2, 12902⟩, iN 3, eN, oN, iN 0, iN 0, zN, zN, iN 0, zN, iN 0, .str ⟨2, 13158⟩, iN 4, eN, oN, iN 0, iN 0, zN, zN, iN 0, zN, iN 0, .str ⟨2, 13414⟩, iN 5, eN, oN, iN 0, iN 0, zN, zN, iN 0, zN, iN 0, .str ⟨2, 13670⟩, iN 6, eN, oN, iN 0, iN 0, zN, zN, iN 0, zN, iN 0, .str ⟨2, 13926⟩, iN 7, eN, oN, iN 0, iN 0, zN, zN, iN 0, zN, iN 0]),
  (1212, .cells [iN 0, iN 16]),
  (1229, .cells [iN 0, iN 2]),
  (1241, .cells [iN 7, .sl 501 0 1 (.ex 1), oN, oN, oN, oN, iN 0, iN 0, zN, .sl 661 0 7 (.op 11), iN 7, oN, iN 0, iN 2, .sl 533 0 1 (.ex 1), oN, oN, oN, oN, iN 0, iN 0, zN, zN, iN 0, oN, iN 0, iN 2, .sl 554 0 1 (.ex 1), oN, oN, oN, oN, iN 0, iN 0, zN, zN, iN 0, oN, iN 0, iN 2, .sl 575 0 1 (.ex 1), oN, oN, oN, oN, iN 0, iN 0, zN, zN, iN 0, oN, iN 0, iN 2, .sl 596 0 1 (.ex 1), oN, oN, oN, oN, iN 0, iN 0, zN, zN, iN 0, oN, iN 0, iN 2, .sl 617 0 1 (.ex 1), oN, oN, oN, oN, iN 0, iN 0, zN, zN, iN 0, oN, iN 0, iN 2, .sl 638 0 1 (.ex 1), oN, oN, oN, oN, iN 0, iN 0, zN, zN, iN 0, oN, iN 0, iN 2, .sl 659 0 1 (.ex 1), oN, oN, oN, oN, iN 0, iN 0, zN, zN, iN 0, oN, iN 0, iN 10, .sl 1212 0 1 (.ex 1), oN, oN, oN, oN, iN 0, iN 0, zN, zN, iN 0, oN, iN 9, iN 2, .sl 1229 0 1 (.ex 1), oN, oN, oN, oN, iN 0, iN 0, zN, zN, iN 0, oN, iN 0]),
  (1243, .cells [iN 0, iN 8])]⟩
theorem eT7_right : eT7.right 2 ((DT [] 100000 60) 14) = true := by kernel_rfl
theorem eT7_shape : eT7.shape = true := by kernel_rfl
def eT8 : Few := ⟨100, [.str tx1_2],
  [],
  .tup [.agg [.str ⟨1, 77⟩, .sl 524 0 2 (.op 1), .sl 1450 0 2 (.op 1), .sl 1448 0 11 (.op 13)], eN], 1463,
  [(524, .cells [.str ⟨1, 65⟩, .str ⟨1, 66⟩]),
  (541, .cells [iN 0, iN 16]),
  (573, .cells [iN 2, iN 0]),
  (594, .cells [iN 2, iN 1]),
  (615, .cells [iN 2, iN 2]),
  (636, .cells [iN 2, iN 3]),
  (657, .cells [iN 2, iN 4]),
  (678, .cells [iN 2, iN 5]),
  (699, .cells [iN 2, iN 6]),
  (720, .cells [iN 2, iN 7]),
  (722, .cells [.str ⟨2, 12390⟩, iN 1, eN, oN, iN 0, iN 0, zN, zN, iN 0, zN, iN 0, .str ⟨2, 12646⟩, iN 2, eN, oN, iN 0, iN 0, zN, zN, iN 0, zN, iN 0, .str ⟨2, 12902⟩, iN 3, eN, oN, iN 0, iN 0, zN, zN, iN 0, zN, iN 0, .str ⟨2, 13158⟩, iN 4, eN, oN, iN 0, iN 0, zN, zN, iN 0, zN, iN 0, .str ⟨2, 13414⟩, iN 5, eN, oN, iN 0, iN 0, zN, zN, iN 0, zN, iN 0, .str ⟨2, 13670⟩, iN 6, eN, oN, iN 0, iN 0, zN, zN, iN 0, zN, iN 0, .str ⟨2, 13926⟩, iN 7, eN, oN, iN 0, iN 0, zN, zN, iN 0, zN, iN 0, .str ⟨2, 14182⟩, iN 8, eN, oN, iN 0, iN 0, zN, zN, iN 0, zN, iN 0]),
  (1419, .cells [iN 0, iN 16]),
  (1436, .cells [iN 0, iN 2]),
  (1448, .cells [iN 7, .sl 541 0 1 (.ex 1), oN, oN, oN, oN, iN 0, iN 0, zN, .sl 722 0 8 (.op 11), iN 8, oN, iN 0, iN 2, .sl 573 0 1 (.ex 1), oN, oN, oN, oN, iN 0, iN 0, zN, zN, iN 0, oN, iN 0, iN 2, .sl 594 0 1 (.ex 1), oN, oN, oN, oN, iN 0, iN 0, zN, zN, iN 0, oN, iN 0, iN 2, .sl 615 0 1 (.ex 1), oN, oN, oN, oN, iN 0, iN 0, zN, zN, iN 0, oN, iN 0, iN 2, .sl 636 0 1 (.ex 1), oN, oN, oN, oN, iN 0, iN 0, zN, zN, iN 0, oN, iN 0, iN 2, .sl 657 0 1 (.ex 1), oN, oN, oN, oN, iN 0, iN 0, zN, zN, iN 0, oN, iN 0, iN 2, .sl 678 0 1 (.ex 1), oN, oN, oN, oN, iN 0, iN 0, zN, zN, iN 0, oN, iN 0, iN 2, .sl 699 0 1 (.ex 1), oN, oN, oN, oN, iN 0, iN 0, zN, zN, iN 0, oN, iN 0, iN 2, .sl 720 0 1 (.ex 1), oN, oN, oN, oN, iN 0, iN 0, zN, zN, iN 0, oN, iN 0, iN 10, .sl 1419 0 1 (.ex 1), oN, oN, oN, oN, iN 0, iN 0, zN, zN, iN 0, oN, iN 10, iN 2, .sl 1436 0 1 (.ex 1), oN, oN, oN, oN, iN 0, iN 0, zN, zN, iN 0, oN, iN 0]),
  (1450, .cells [iN 0, iN 9])]⟩
theorem eT8_right : eT8.right 2 ((DT [] 100000 60) 14) = true := by kernel_rfl
theorem eT8_shape : eT8.shape = true := by kernel_rfl
end
end Go.Proofs.YtpbdnlclihogfaaGreatDoor
set_option linter.all false
set_option maxRecDepth 100000
set_option maxHeartbeats 0
namespace Go.Proofs.YtpbdnlclihogfaaGreatDoor
open Go Go.Og
noncomputable section
def tx2_0 : BS := ⟨310, 95632717433623179999590373494100605465539269919546484994037722354534072902267656307196196385788887350810392287853715012146021031162788054169200213106627700722546909317368537049021518945992085871962472134394572542610079968411467233528733618482759577050704501593711359810293289548630051702283648459962660544126018928360395897028285493089166097622352450096359036103447403856411131884130612639910219509496481884334937265216621754778250749202017779134995624923825545280605092285613627500835238564765209909595085907217882124183381482735703211962230856698267005207981943989388728226048958327920787398135795264839507388152349683667206631345509120058559110538044123714732843739299805833066446234369908911564458178177102813938433698077737883990510417485901⟩
def tx2_1 : BS := ⟨335, 153675851919959076540562344854905479742795106182411218512531443146125614890375101084042870698496056465019122429192570128013636640116500080623544191437616440572057331591239504914659604760561117617853416476847580610248699214597480024430833861359983737900087657979846472627540809038995534812581251608357940135680146233326811348948314953610825639762822879487614051125676907003721436167882296175721255283181895445800788350852462416050971312228600355490803438708512763619670436600521547119719571051686941292906499191208932496217411334508166307258005716632384413103264895695097141822781130824347362973399844962935736798932650974601336156635398070179876189370312913810499829704612457978915110287341733294118970228097379837239991766914526273584538478816273733619709894895840003012231333511951593844812778040344191053⟩
def eT9 : Few := ⟨100, [.str tx2_0],
  [],
  .tup [.agg [.str ⟨1, 77⟩, .sl 564 0 2 (.op 1), .sl 1675 0 2 (.op 1), .sl 1673 0 12 (.op 13)], eN], 1688,
  [(564, .cells [.str ⟨1, 65⟩, .str ⟨1, 66⟩]),
  (581, .cells [iN 0, iN 16]),
  (613, .cells [iN 2, iN 0]),
  (634, .cells [iN 2, iN 1]),
  (655, .cells [iN 2, iN 2]),
  (676, .cells [iN 2, iN 3]),
  (697, .cells [iN 2, iN 4]),
  (718, .cells [iN 2, iN 5]),
  (739, .cells [iN 2, iN 6]),
  (760, .cells [iN 2, iN 7]),
  (781, .cells [iN 2, iN 8]),
  (783, .cells [.str ⟨2, 12390⟩, iN 1, eN, oN, iN 0, iN 0, zN, zN, iN 0, zN, iN 0, .str ⟨2, 12646⟩, iN 2, eN, oN, iN 0, iN 0, zN, zN, iN 0, zN, iN 0, .str ⟨2, 12902⟩, iN 3, eN, oN, iN 0, iN 0, zN, zN, iN 0, zN, iN 0, .str ⟨2, 13158⟩, iN 4, eN, oN, iN 0, iN 0, zN, zN, iN 0, zN, iN 0, .str ⟨2, 13414⟩, iN 5, eN, oN, iN 0, iN 0, zN, zN, iN 0, zN, iN 0, .str ⟨2, 13670⟩, iN 6, eN, oN, iN 0, iN 0, zN, zN, iN 0, zN, iN 0, .str ⟨2, 13926⟩, iN 7, eN, oN, iN 0, iN 0, zN, zN, iN 0, zN, iN 0, .str ⟨2, 14182⟩, iN 8, eN, oN, iN 0, iN 0, zN, zN, iN 0, zN, iN 0, .str ⟨2, 14438⟩, iN 9, eN, oN, iN 0, iN 0, zN, zN, iN 0, zN, iN 0]),
  (1644, .cells [iN 0, iN 16]),
  (1661, .cells [iN 0, iN 2]),
  (1673, .cells [iN 7, .sl 581 0 1 (.ex 1), oN, oN, oN, oN, iN 0, iN 0, zN, .sl 783 0 9 (.op 11), iN 9, oN, iN 0, iN 2, .sl 613 0 1 (.ex 1), oN, oN, oN, oN, iN 0, iN 0, zN, zN, iN 0, oN, iN 0, iN 2, .sl 634 0 1 (.ex 1), oN, oN, oN, oN, iN 0, iN 0, zN, zN, iN 0, oN, iN 0, iN 2, .sl 655 0 1 (.ex 1), oN, oN, oN, oN, iN 0, iN 0, zN, zN, iN 0, oN, iN 0, iN 2, .sl 676 0 1 (.ex 1), oN, oN, oN, oN, iN 0, iN 0, zN, zN, iN 0, oN, iN 0, iN 2, .sl 697 0 1 (.ex 1), oN, oN, oN, oN, iN 0, iN 0, zN, zN, iN 0, oN, iN 0, iN 2, .sl 718 0 1 (.ex 1), oN, oN, oN, oN, iN 0, iN 0, zN, zN, iN 0, oN, iN 0, iN 2, .sl 739 0 1 (.ex 1), oN, oN, oN, oN, iN 0, iN 0, zN, zN, iN 0, oN, iN 0, iN 2, .sl 760 0 1 (.ex 1), oN, oN, oN, oN, iN 0, iN 0, zN, zN, iN 0, oN, iN 0, iN 2, .sl 781 0 1 (.ex 1), oN, oN, oN, oN, iN 0, iN 0, zN, zN, iN 0, oN, iN 0, iN 10, .sl 1644 0 1 (.ex 1), oN, oN, oN, oN, iN 0, iN 0, zN, zN, iN 0, oN, iN 11, iN 2, .sl 1661 0 1 (.ex 1), oN, oN, oN, oN, iN 0, iN 0, zN, zN, iN 0, oN, iN 0]),
  (1675, .cells [iN 0, iN 10])]⟩
theorem eT9_right : eT9.right 2 ((DT [] 100000 60) 14) = true := by kernel_rfl
theorem eT9_shape : eT9.shape = true := by kernel_rfl
def eT10 : Few := ⟨100, [.str tx2_1],
  [],
  .tup [.agg [.str ⟨1, 77⟩, .sl 604 0 2 (.op 1), .sl 1918 0 2 (.op 1), .sl 1916 0 13 (.op 13)], eN], 1931,
  [(604, .cells [.str ⟨1, 65⟩, .str ⟨1, 66⟩]),
  (621, .cells [iN 0, iN 16]),
  (653, .cells [iN 2, iN 0]),
  (674, .cells [iN 2, iN 1]),
  (695, .cells [iN 2, iN 2]),
  (716, .cells [iN 2, iN 3]),
  (737, .cells [iN 2, iN 4]),
  (758, .cells [iN 2, iN 5]),
  (779, .cells [iN 2, iN 6]),
  (800, .cells [iN 2, iN 7]),
  (821, .cells [iN 2, iN 8]),
  (842, .cells [iN 2, iN 9]),
  (844, .cells [.str ⟨2, 12390⟩, iN 1, eN, oN, iN 0, iN 0, zN, zN, iN 0, zN, iN 0, .str ⟨2, 12646⟩, iN 2, eN, oN, iN 0, iN 0, zN, zN, iN 0, zN, iN 0, .str ⟨2, 12902⟩, iN 3, eN, oN, iN 0, iN 0, zN, zN, iN 0, zN, iN 0, .str ⟨2, 13158⟩, iN 4, eN, oN, iN 0, iN 0, zN, zN, iN 0, zN, iN 0, .str ⟨2, 13414⟩, iN 5, eN, oN, iN 0, iN 0, zN, zN, iN 0, zN, iN 0, .str ⟨2, 13670⟩, iN 6, eN, oN, iN 0, iN 0, zN, zN, iN 0, zN, iN 0, .str ⟨2, 13926⟩, iN 7, eN, oN, iN 0, iN 0, zN, zN, iN 0, zN, iN 0, .str ⟨2, 14182⟩, iN 8, eN, oN, iN 0, iN 0, zN, zN, iN 0, zN, iN 0, .str ⟨2, 14438⟩, iN 9, eN, oN, iN 0, iN 0, zN, zN, iN 0, zN, iN 0, .str ⟨2, 14694⟩, iN 10, eN, oN, iN 0, iN 0, zN, zN, iN 0, zN, iN 0]),
  (1887, .cells [iN 0, iN 16]),
  (1904, .cells [iN 0, iN 2]),
  (1916, .cells [iN 7, .sl 621 0 1 (.ex 1), oN, oN, oN, oN, iN 0, iN 0, zN, .sl 844 0 10 (.op 11), iN 10, oN, iN 0, iN 2, .sl 653 0 1 (.ex 1), oN, oN, oN, oN, iN 0, iN 0, zN, zN, iN 0, oN, iN 0, iN 2, .sl 674 0 1 (.ex 1), oN, oN, oN, oN, iN 0, iN 0, zN, zN, iN 0, oN, iN 0, iN 2, .sl 695 0 1 (.ex 1), oN, oN, oN, oN, iN 0, iN 0, zN, zN, iN 0, oN, iN 0, iN 2, .sl 716 0 1 (.ex 1), oN, oN, oN, oN, iN 0, iN 0, zN, zN, iN 0, oN, iN 0, iN 2, .sl 737 0 1 (.ex 1), oN, oN, oN, oN, iN 0, iN 0, zN, zN, iN 0, oN, iN 0, iN 2, .sl 758 0 1 (.ex 1), oN, oN, oN, oN, iN 0, iN 0, zN, zN, iN 0, oN, iN 0, iN 2, .sl 779 0 1 (.ex 1), oN, oN, oN, oN, iN 0, iN 0, zN, zN, iN 0, oN, iN 0, iN 2, .sl 800 0 1 (.ex 1), oN, oN, oN, oN, iN 0, iN 0, zN, zN, iN 0, oN, iN 0, iN 2, .sl 821 0 1 (.ex 1), oN, oN, oN, oN, iN 0, iN 0, zN, zN, iN 0, oN, iN 0, iN 2, .sl 842 0 1 (.ex 1), oN, oN, oN, oN, iN 0, iN 0, zN, zN, iN 0, oN, iN 0, iN 10, .sl 1887 0 1 (.ex 1), oN, oN, oN, oN, iN 0, iN 0, zN, zN, iN 0, oN, iN 12, iN 2, .sl 1904 0 1 (.ex 1), oN, oN, oN, oN, iN 0, iN 0, zN, zN, iN 0, oN, iN 0]),
  (1918, .cells [iN 0, iN 11])]⟩
theorem eT10_right : eT10.right 2 ((DT [] 100000 60) 14) = true := by kernel_rfl
theorem eT10_shape : eT10.shape = true := by kernel_rfl
end
end Go.Proofs.YtpbdnlclihogfaaGreatDoor
set_option linter.all false
set_option maxRecDepth 100000
set_option maxHeartbeats 0
namespace Go.Proofs.YtpbdnlclihogfaaGreatDoor
open Go Go.Og
noncomputable section
def kn : List (Nat × List Few) := [(14, [eT0, eT1, eT2, eT3, eT4, eT5, eT6, eT7, eT8, eT9, eT10]), (17, [eAw]), (25, [eD0, eD1, eD2, eD3, eD4, eD5, eD6, eD7, eD8, eD9])]
def TW (d : Nat) : Den := Nat.rec (fun _ _ _ => none) (fun _ ih f => match lookF kn f with
  | some l => locF l (BD [] 100000 ih f)
  | none => BD [] 100000 ih f) d
theorem kn_right : ∀ p ∈ kn, ∀ e ∈ p.2, e.right 2 (DT [] 100000 60 p.1) = true := by
  unfold kn
  simp only [List.forall_mem_cons, List.not_mem_nil, false_implies, implies_true, and_true]
  exact ⟨⟨eT0_right, eT1_right, eT2_right, eT3_right, eT4_right, eT5_right, eT6_right, eT7_right, eT8_right, eT9_right, eT10_right⟩, eAw_right, ⟨eD0_right, eD1_right, eD2_right, eD3_right, eD4_right, eD5_right, eD6_right, eD7_right, eD8_right, eD9_right⟩⟩
theorem TW_ok : ∀ (d : Nat) (f : FuncId), SoundFn Tryz.prog [] glob f (TW d f) := by
  intro d
  induction d with
  | zero => intro f C _ _ R σ w args xs v σ' h; cases h
  | succ d ih =>
    intro f
    show SoundFn Tryz.prog [] glob f (match lookF kn f with
      | some l => locF l (BD [] 100000 (TW d) f)
      | none => BD [] 100000 (TW d) f)
    split
    · rename_i l hl
      rw [lookF_eq] at hl
      exact locF_ok (BD_ok [] 100000 (TW d) ih f) (DT_ok [] 100000 60 f) globLt (kn_right _ (look_mem hl))
    · exact BD_ok [] 100000 (TW d) ih f
theorem DE110 (d : Nat) : TW (d + 1) 110 = F110 [] (TW d) (drawW [] (TW d)) 100000 := by kernel_rfl
theorem DE65 (d : Nat) : TW (d + 1) 65 = F65 [] (TW d) (drawW [] (TW d)) 100000 := by kernel_rfl
theorem DE115 (d : Nat) : TW (d + 1) 115 = F115 [] (TW d) (drawW [] (TW d)) 100000 := by kernel_rfl
theorem DE64 (d : Nat) : TW (d + 1) 64 = F64 [] (TW d) (drawW [] (TW d)) 100000 := by kernel_rfl
theorem DE39 (d : Nat) : TW (d + 1) 39 = F39 [] (TW d) (drawW [] (TW d)) 100000 := by kernel_rfl
theorem DE66 (d : Nat) : TW (d + 1) 66 = F66 [] (TW d) (drawW [] (TW d)) 100000 := by kernel_rfl
theorem DE63 (d : Nat) : TW (d + 1) 63 = F63 [] (TW d) (drawW [] (TW d)) 100000 := by kernel_rfl
theorem DE40 (d : Nat) : TW (d + 1) 40 = F40 [] (TW d) (drawW [] (TW d)) 100000 := by kernel_rfl
theorem DE67 (d : Nat) : TW (d + 1) 67 = F67 [] (TW d) (drawW [] (TW d)) 100000 := by kernel_rfl
theorem DE117 (d : Nat) : TW (d + 1) 117 = F117 [] (TW d) (drawW [] (TW d)) 100000 := by kernel_rfl
theorem DE165 (d : Nat) : TW (d + 1) 165 = F165 [] (TW d) (drawW [] (TW d)) 100000 := by kernel_rfl
theorem DE27 (d : Nat) : TW (d + 1) 27 = F27 [] (TW d) (drawW [] (TW d)) 100000 := by kernel_rfl
theorem DE49 (d : Nat) : TW (d + 1) 49 = F49 [] (TW d) (drawW [] (TW d)) 100000 := by kernel_rfl
theorem DE111 (d : Nat) : TW (d + 1) 111 = F111 [] (TW d) (drawW [] (TW d)) 100000 := by kernel_rfl
theorem DE68 (d : Nat) : TW (d + 1) 68 = F68 [] (TW d) (drawW [] (TW d)) 100000 := by kernel_rfl
theorem DE118 (d : Nat) : TW (d + 1) 118 = F118 [] (TW d) (drawW [] (TW d)) 100000 := by kernel_rfl
theorem DE26 (d : Nat) : TW (d + 1) 26 = F26 [] (TW d) (drawW [] (TW d)) 100000 := by kernel_rfl
theorem DE119 (d : Nat) : TW (d + 1) 119 = F119 [] (TW d) (drawW [] (TW d)) 100000 := by kernel_rfl
theorem DE160 (d : Nat) : TW (d + 1) 160 = F160 [] (TW d) (drawW [] (TW d)) 100000 := by kernel_rfl
theorem DE18 (d : Nat) : TW (d + 1) 18 = F18 [] (TW d) (drawW [] (TW d)) 100000 := by kernel_rfl
theorem DE38 (d : Nat) : TW (d + 1) 38 = F38 [] (TW d) (drawW [] (TW d)) 100000 := by kernel_rfl
theorem DE162 (d : Nat) : TW (d + 1) 162 = F162 [] (TW d) (drawW [] (TW d)) 100000 := by kernel_rfl
theorem DE20 (d : Nat) : TW (d + 1) 20 = F20 [] (TW d) (drawW [] (TW d)) 100000 := by kernel_rfl
theorem DE114 (d : Nat) : TW (d + 1) 114 = F114 [] (TW d) (drawW [] (TW d)) 100000 := by kernel_rfl
theorem DE161 (d : Nat) : TW (d + 1) 161 = F161 [] (TW d) (drawW [] (TW d)) 100000 := by kernel_rfl
theorem DE164 (d : Nat) : TW (d + 1) 164 = F164 [] (TW d) (drawW [] (TW d)) 100000 := by kernel_rfl
theorem DE187 (d : Nat) : TW (d + 1) 187 = F187 [] (TW d) (drawW [] (TW d)) 100000 := by kernel_rfl
theorem DE207 (d : Nat) : TW (d + 1) 207 = F207 [] (TW d) (drawW [] (TW d)) 100000 := by kernel_rfl
theorem DE208 (d : Nat) : TW (d + 1) 208 = F208 [] (TW d) (drawW [] (TW d)) 100000 := by kernel_rfl
theorem DE69 (d : Nat) : TW (d + 1) 69 = F69 [] (TW d) (drawW [] (TW d)) 100000 := by kernel_rfl
theorem DE113 (d : Nat) : TW (d + 1) 113 = F113 [] (TW d) (drawW [] (TW d)) 100000 := by kernel_rfl
theorem DE116 (d : Nat) : TW (d + 1) 116 = F116 [] (TW d) (drawW [] (TW d)) 100000 := by kernel_rfl
theorem DE14 (d : Nat) : TW (d + 1) 14 = locF [eT0, eT1, eT2, eT3, eT4, eT5, eT6, eT7, eT8, eT9, eT10] (BD [] 100000 (TW d) 14) := by kernel_rfl
theorem DE17 (d : Nat) : TW (d + 1) 17 = locF [eAw] (BD [] 100000 (TW d) 17) := by kernel_rfl
theorem DE25 (d : Nat) : TW (d + 1) 25 = locF [eD0, eD1, eD2, eD3, eD4, eD5, eD6, eD7, eD8, eD9] (BD [] 100000 (TW d) 25) := by kernel_rfl
end
end Go.Proofs.YtpbdnlclihogfaaGreatDoor

set_option linter.all false
set_option maxRecDepth 100000
namespace Go.Proofs.YtpbdnlclihogfaaGreatDoor
open Go Go.Og
noncomputable section
theorem mk_new {σ : H} (ht : Tidy σ) (z : List V) : ∃ σ1, newB σ (.cells z) = σ1 ∧ Fr Nowhere σ σ1 ∧ Atc σ1 σ.next z ∧ σ1.next = σ.next + 1 := ⟨_, rfl, Fr.new ht _, Atc_newB _, rfl⟩
theorem mk_set {σ : H} {b : Nat} {l : List V} (ht : Tidy σ) (h : Atc σ b l) (z : List V) : ∃ σ1, setF σ b (.cells z) = σ1 ∧ Fr (fun k => k = b) σ σ1 ∧ Atc σ1 b z := ⟨_, rfl, Fr.set ht (h.lt ht) _, Atc_setF _⟩
/-- A value's cells. -/
def vc (k n : Int) (b l : V) (r : Int) (m : V) : List V := [.int .i64 k, .int .i64 n, b, l, .int .i64 r, m]
def bitU (u : Int) (k : Nat) : Bool := !eqF (andF .i64 u (Int.ofNat k)) (Int.ofNat 0)
def plainB (u k n : Int) (nb nl : Nat) (r : Int) (nm : Nat) : Bool :=
  (((bitU u 1 || eqF n (Int.ofNat 0)) && (bitU u 2 || eqF (Int.ofNat nb) (Int.ofNat 0))) && (bitU u 4 || eqF (Int.ofNat nl) (Int.ofNat 0))) && (bitU u 8 || (eqF r (Int.ofNat 0) && eqF (Int.ofNat nm) (Int.ofNat 0)))
def SpPlain (F : List V → H → Ans) : Prop := ∀ (σ : H) (u k n r : Int) (b l m : V) (nb nl nm : Nat), Tidy σ → Len b nb → Len l nl → Len m nm →
  ∃ σ', F [.agg (vc k n b l r m), .int .i64 u] σ = some (.bool (plainB u k n nb nl r nm), σ') ∧ Fr Nowhere σ σ'
section
variable {D : Den} {W : DrawFn} {N : Nat}
theorem plain_F : SpPlain (F110 [] D W N) := by
  intro σ u k n r b l m nb nl nm ht hb hl hm
  obtain ⟨σ1, e1, f1, a1, n1⟩ := mk_new ht (vc k n b l r m)
  refine ⟨σ1, ?_, f1⟩
  unfold vc at *
  show T110_0 [] D W k n b l r m u σ = _
  unfold T110_0
  simp -implicitDefEqProofs only [cells_agg, cells_int, cells_ptr, allOne_cons, allOne_nil, one_int, one_bool, one_str, one_nils, one_sl, one_ptr, Bool.and_true, chk_t, nthK_zero, nthK_succ, subK_2, subK_4, subK_5, subK_6, subK_13, subK_con, rtInt_int, rtBool_bool, rtStr_str, rtPtr_ptr, rtAgg_agg, rtTup_tup, rtCons_cons, rtNil_nil, rtOne_nils, rtOne_pt, rtOne_sl, slenK_nils, slenK_sl, callK_some_, condK_true, condK_false, join_or, join_and, join_id, Nat.add_eq, Nat.zero_add, Bool.not_true, Bool.not_false, hb.1, hl.1, hm.1, e1, ldK_is a1, ldnK_is a1, hb.2, hl.2, hm.2]
  rfl
theorem absent_F (hP : SpPlain (D 110)) {σ : H} (ht : Tidy σ) {k n r : Int} {b l m : V} {nb nl nm : Nat} (hb : Len b nb) (hl : Len l nl) (hm : Len m nm) :
    ∃ σ', F119 [] D W N [.agg (vc k n b l r m)] σ = some (.bool (eqF k (Int.ofNat 0) && plainB (Int.ofNat 0) k n nb nl r nm), σ') ∧ Fr Nowhere σ σ' := by
  obtain ⟨σ1, e1, f1, a1, n1⟩ := mk_new ht (vc k n b l r m)
  obtain ⟨σ2, g2, f2⟩ := hP σ1 (Int.ofNat 0) k n r b l m nb nl nm f1.tidy hb hl hm
  unfold vc at e1 a1 g2 ⊢
  show ∃ σ', T119_0 [] D W k n b l r m σ = _ ∧ _
  unfold T119_0
  simp -implicitDefEqProofs only [cells_agg, cells_int, cells_ptr, allOne_cons, allOne_nil, one_int, one_bool, one_str, one_nils, one_sl, one_ptr, Bool.and_true, chk_t, nthK_zero, nthK_succ, subK_2, subK_4, subK_5, subK_6, subK_13, subK_con, rtInt_int, rtBool_bool, rtStr_str, rtPtr_ptr, rtAgg_agg, rtTup_tup, rtCons_cons, rtNil_nil, rtOne_nils, rtOne_pt, rtOne_sl, slenK_nils, slenK_sl, callK_some_, condK_true, condK_false, join_or, join_and, join_id, Nat.add_eq, Nat.zero_add, Bool.not_true, Bool.not_false, hb.1, hl.1, hm.1, e1, ldK_is a1, ldnK_is a1, g2]
  cases eqF k (Int.ofNat 0) with
  | true => exact ⟨σ2, rfl, f1.trans f2 (fun _ _ h => h)⟩
  | false => exact ⟨σ1, rfl, f1⟩
def withinB (h hl hh : Bool) (lo hi v : Int) : Bool := !h || ((!hl || leF lo v) && (!hh || leF v hi))
theorem within_F {σ : H} (ht : Tidy σ) (h hl hh mo : Bool) (lo hi v : Int) :
    ∃ σ', F111 [] D W N [.agg [.bool h, .bool hl, .bool hh, .bool mo, .int .i64 lo, .int .i64 hi], .int .i64 v] σ = some (.bool (withinB h hl hh lo hi v), σ') ∧ Fr Nowhere σ σ' := by
  obtain ⟨σ1, e1, f1, a1, n1⟩ := mk_new ht [.bool h, .bool hl, .bool hh, .bool mo, .int .i64 lo, .int .i64 hi]
  refine ⟨σ1, ?_, f1⟩
  show T111_0 [] D W h hl hh mo lo hi v σ = _
  unfold T111_0
  simp -implicitDefEqProofs only [cells_agg, cells_int, cells_ptr, allOne_cons, allOne_nil, one_int, one_bool, one_str, one_nils, one_sl, one_ptr, Bool.and_true, chk_t, nthK_zero, nthK_succ, subK_2, subK_4, subK_5, subK_6, subK_13, subK_con, rtInt_int, rtBool_bool, rtStr_str, rtPtr_ptr, rtAgg_agg, rtTup_tup, rtCons_cons, rtNil_nil, rtOne_nils, rtOne_pt, rtOne_sl, slenK_nils, slenK_sl, callK_some_, condK_true, condK_false, join_or, join_and, join_id, Nat.add_eq, Nat.zero_add, Bool.not_true, Bool.not_false, e1, ldK_is a1, ldnK_is a1]
  rfl
/-- The cells of a type. -/
structure Ty where
  kind : Int
  tags : V
  has : Bool
  hasLow : Bool
  hasHigh : Bool
  conMore : Bool
  low : Int
  high : Int
  items : V
  fields : V
  root : Int
  more : Bool
  of_ : Int
  oneT : tags.one = true
  oneI : items.one = true
  oneF : fields.one = true
def Ty.c (x : Ty) : List V := [.int .i64 x.kind, x.tags, .bool x.has, .bool x.hasLow, .bool x.hasHigh, .bool x.conMore, .int .i64 x.low, .int .i64 x.high, x.items, x.fields, .int .i64 x.root, .bool x.more, .int .i64 x.of_]
/-- The cells of a field: its type's place, whether it may lack, whether it has a default, its default's cells. -/
structure Fd where
  name : BS
  type : Int
  opt : Bool
  has : Bool
  d0 : Int
  d1 : Int
  d2 : V
  d3 : V
  d4 : Int
  d5 : V
  group : Int
  one2 : d2.one = true
  one3 : d3.one = true
  one5 : d5.one = true
def Fd.c (x : Fd) : List V := [.str x.name, .int .i64 x.type, .bool x.opt, .bool x.has, .int .i64 x.d0, .int .i64 x.d1, x.d2, x.d3, .int .i64 x.d4, x.d5, .int .i64 x.group]
/-- The k-th of so many cells each. -/
def Cel (L : List V) (esz k : Nat) (c : List V) : Prop := k * esz + esz ≤ L.length ∧ (L.drop (k * esz)).take esz = c
theorem Cel.sub {L : List V} {esz k : Nat} {c : List V} (h : Cel L esz k c) (κ : List V → Ans) : subK L (0 + k * esz) esz κ = κ c := by
  rw [Nat.zero_add, subK_of h.1, h.2]
theorem Cel.get {L : List V} {esz k : Nat} {c : List V} (h : Cel L esz k c) {j : Nat} {v : V} (hj : c[j]? = some v) (κ : V → Ans) : nthK L (0 + k * esz + j) κ = κ v := by
  refine nthK_of ?_
  rw [nthF_eq, ← hj, ← h.2]
  obtain ⟨hlt, _⟩ := List.getElem?_eq_some_iff.1 hj
  have hc : c.length ≤ esz := by rw [← h.2]; simp only [List.length_take]; omega
  rw [List.getElem?_take, if_pos (by omega), List.getElem?_drop, Nat.zero_add]
/-- A slice of elements of esz cells each: the k-th one's cells. -/
structure Row (σ : H) (esz n : Nat) (v : V) (g : Nat → List V) : Prop where
  is : (n = 0 ∧ v = .nils) ∨ ∃ b c L, v = .sl b 0 n c ∧ Atc σ b L ∧ ∀ k, k < n → Cel L esz k (g k)
theorem Row.len {σ : H} {esz n : Nat} {v : V} {g : Nat → List V} (h : Row σ esz n v g) : Len v n := by
  rcases h.is with ⟨rfl, rfl⟩ | ⟨b, c, L, rfl, _⟩
  · exact Len.nils
  · exact Len.sl
theorem Row.fr {S : Nat → Prop} {σ σ' : H} {esz n : Nat} {v : V} {g : Nat → List V} (h : Row σ esz n v g) (f : Fr S σ σ') (ht : Tidy σ) (hS : ∀ b, Names v b → ¬ S b) : Row σ' esz n v g := by
  rcases h.is with h | ⟨b, c, L, rfl, ha, hc⟩
  · exact ⟨.inl h⟩
  · exact ⟨.inr ⟨b, c, L, rfl, f.at_ ha ht (hS b rfl), hc⟩⟩
theorem Row.fr0 {σ σ' : H} {esz n : Nat} {v : V} {g : Nat → List V} (h : Row σ esz n v g) (f : Fr Nowhere σ σ') (ht : Tidy σ) : Row σ' esz n v g := h.fr f ht (fun _ _ h => h)
/-- An element's cells, all of them. -/
theorem Row.all {E : List (Nat × Blk)} {σ : H} {esz n : Nat} {v : V} {g : Nat → List V} (h : Row σ esz n v g) {k : Nat} (hk : k < n) (κ : List V → Ans) :
    iaddrSK esz v (Int.ofNat k) (fun b o => ldnK E σ b o esz κ) = κ (g k) := by
  rcases h.is with ⟨rfl, rfl⟩ | ⟨b, c, L, rfl, ha, hc⟩
  · omega
  · rw [iaddrSK_lt hk]
    show ldnK E σ b (0 + k * esz) esz κ = _
    rw [ldnK_is ha, (hc k hk).sub]
theorem Row.one {E : List (Nat × Blk)} {σ : H} {esz n : Nat} {v : V} {g : Nat → List V} (h : Row σ esz n v g) {k : Nat} (hk : k < n) {j : Nat} {u : V} (hj : (g k)[j]? = some u) (κ : V → Ans) :
    iaddrSK esz v (Int.ofNat k) (fun b o => ldK E σ b (o + j) κ) = κ u := by
  rcases h.is with ⟨rfl, rfl⟩ | ⟨b, c, L, rfl, ha, hc⟩
  · omega
  · rw [iaddrSK_lt hk]
    show ldK E σ b (0 + k * esz + j) κ = _
    rw [ldK_is ha, (hc k hk).get hj]
theorem loose_F {σ : H} (ht : Tidy σ) (x : Ty) {nf : Nat} {fd : Nat → Fd} (hf : Row σ 11 nf x.fields fun k => (fd k).c) {k : Nat} (hk : k < nf) :
    ∃ σ', F162 [] D W N [.agg x.c, .int .i64 (Int.ofNat k)] σ = some (.bool (((fd k).opt || (fd k).has) || leF x.root (Int.ofNat k)), σ') ∧ Fr Nowhere σ σ' := by
  obtain ⟨σ1, e1, f1, a1, n1⟩ := mk_new ht x.c
  refine ⟨σ1, ?_, f1⟩
  have hf1 := hf.fr0 f1 ht
  have r2 : ∀ κ, iaddrSK 11 x.fields (Int.ofNat k) (fun b o => ldK [] σ1 b (o + 2) κ) = κ (.bool (fd k).opt) := fun κ => hf1.one hk rfl κ
  have r3 : ∀ κ, iaddrSK 11 x.fields (Int.ofNat k) (fun b o => ldK [] σ1 b (o + 3) κ) = κ (.bool (fd k).has) := fun κ => hf1.one hk rfl κ
  unfold Ty.c at e1 a1
  show T162_0 [] D W x.kind x.tags x.has x.hasLow x.hasHigh x.conMore x.low x.high x.items x.fields x.root x.more x.of_ (Int.ofNat k) σ = _
  unfold T162_0
  simp -implicitDefEqProofs only [cells_agg, cells_int, cells_ptr, allOne_cons, allOne_nil, one_int, one_bool, one_str, one_nils, one_sl, one_ptr, Bool.and_true, chk_t, nthK_zero, nthK_succ, subK_2, subK_4, subK_5, subK_6, subK_13, subK_con, rtInt_int, rtBool_bool, rtStr_str, rtPtr_ptr, rtAgg_agg, rtTup_tup, rtCons_cons, rtNil_nil, rtOne_nils, rtOne_pt, rtOne_sl, slenK_nils, slenK_sl, callK_some_, condK_true, condK_false, join_or, join_and, join_id, Nat.add_eq, Nat.zero_add, Bool.not_true, Bool.not_false, x.oneT, x.oneI, x.oneF, e1, ldK_is a1, ldnK_is a1, r2, r3]
end
end
end Go.Proofs.YtpbdnlclihogfaaGreatDoor
set_option linter.all false
set_option maxRecDepth 100000
namespace Go.Proofs.YtpbdnlclihogfaaGreatDoor
open Go Go.Og
noncomputable section
def SpWithin (F : List V → H → Ans) : Prop := ∀ (σ : H) (h hl hh mo : Bool) (lo hi v : Int), Tidy σ → ∃ σ', F [.agg [.bool h, .bool hl, .bool hh, .bool mo, .int .i64 lo, .int .i64 hi], .int .i64 v] σ = some (.bool (withinB h hl hh lo hi v), σ') ∧ Fr Nowhere σ σ'
/-- A checker of a table with these types. -/
structure Ck (σ : H) (p nT : Nat) (ty : Nat → Ty) (nm : BS) (nv rv tv : V) (rest : List V) : Prop where
  at_ : Atc σ p ([.str nm, nv, rv, tv] ++ rest)
  n1 : nv.one = true
  r1 : rv.one = true
  t1 : tv.one = true
  row : Row σ 13 nT tv fun i => (ty i).c
  apart : ∀ b, Names tv b → b ≠ p
section
variable {D : Den} {W : DrawFn} {N : Nat} {σ σ' : H} {p nT : Nat} {ty : Nat → Ty} {nm : BS} {nv rv tv : V} {rest : List V}
theorem Ck.fr (h : Ck σ p nT ty nm nv rv tv rest) (f : Fr Nowhere σ σ') (ht : Tidy σ) : Ck σ' p nT ty nm nv rv tv rest := ⟨f.at_ h.at_ ht (fun h => h), h.n1, h.r1, h.t1, h.row.fr0 f ht, h.apart⟩
theorem Ck.types {E : List (Nat × Blk)} (h : Ck σ p nT ty nm nv rv tv rest) (κ : V → Ans) : ldK E σ p 3 κ = κ tv := by
  rw [ldK_is h.at_]; rfl
def intC (n : Int) : List V := vc (Int.ofNat 2) n .nils .nils (Int.ofNat 0) .nils
theorem fitsInt_F (hP : SpPlain (D 110)) (hW : SpWithin (D 111)) (ht : Tidy σ) (hc : Ck σ p nT ty nm nv rv tv rest) {i dp : Nat} (hi : i < nT) (hd : dp ≤ 17) (hk : (ty i).kind = Int.ofNat 2) (hh : (ty i).has = false) (n : Int) :
    ∃ σ', F63 [] D W N [.ptr p 0, .int .i64 (Int.ofNat i), .agg (intC n), .int .i64 (Int.ofNat dp)] σ = some (.bool true, σ') ∧ Fr Nowhere σ σ' := by
  obtain ⟨σ1, e1, f1, a1, n1⟩ := mk_new ht (intC n)
  have c1 := hc.fr f1 ht
  obtain ⟨σ2, g2, f2⟩ := hP σ1 (Int.ofNat 1) (Int.ofNat 2) n (Int.ofNat 0) .nils .nils .nils 0 0 0 f1.tidy Len.nils Len.nils Len.nils
  have a2 := f2.at_ a1 f1.tidy (fun h => h)
  obtain ⟨σ3, g3, f3⟩ := hW σ2 (ty i).has (ty i).hasLow (ty i).hasHigh (ty i).conMore (ty i).low (ty i).high n f2.tidy
  have f12 := f1.trans f2 (fun _ _ h => h)
  have rd : ∀ κ, iaddrSK 13 tv (Int.ofNat i) (fun b o => ldnK [] σ1 b o 13 κ) = κ (ty i).c := fun κ => c1.row.all hi κ
  have hp : plainB (Int.ofNat 1) (Int.ofNat 2) n 0 0 (Int.ofNat 0) 0 = true := rfl
  have hw : withinB (ty i).has (ty i).hasLow (ty i).hasHigh (ty i).low (ty i).high n = true := by rw [hh]; rfl
  have hl := c1.row.len
  rw [hp] at g2
  rw [hw] at g3
  unfold intC at e1 a1 a2 ⊢
  unfold vc at e1 a1 a2 g2 ⊢
  have d1 : decide (nT ≤ i) = false := decide_eq_false (by omega)
  have d2 : decide (17 < dp) = false := decide_eq_false (by omega)
  show ∃ σ', T63_0 [] D W _ p 0 (Int.ofNat i) (Int.ofNat 2) n .nils .nils (Int.ofNat 0) .nils (Int.ofNat dp) σ = _ ∧ _
  unfold T63_0
  simp -implicitDefEqProofs only [↓nthK_zero, ↓nthK_succ, ↓subK_2, ↓subK_4, ↓subK_5, ↓subK_6, ↓subK_13, ↓subK_con, ↓rtInt_int, ↓rtBool_bool, ↓rtStr_str, ↓rtPtr_ptr, ↓rtAgg_agg, ↓rtTup_tup, ↓rtCons_cons, ↓rtNil_nil, ↓rtOne_nils, ↓rtOne_pt, ↓rtOne_sl, ↓slenK_nils, ↓slenK_sl, ↓callK_some_, ↓condK_ift, ↓condK_iff, ↓chk_if, ↓joinB_, cells_agg, cells_int, cells_ptr, allOne_cons, allOne_nil, one_int, one_bool, one_str, one_nils, one_sl, one_ptr, Bool.and_true, Nat.add_eq, Nat.zero_add, Bool.not_true, Bool.not_false, eqF_nat, ltF_nat, leF_nat, Nat.reduceEqDiff, Nat.reduceLT, Nat.reduceLeDiff, decide_false, decide_true, Bool.false_or, Bool.true_or, Bool.or_false, Bool.or_true, Bool.false_and, Bool.true_and, Bool.and_false, Nat.not_lt_zero, ↓e1, ↓c1.types, ↓hl.2, d1, d2, ↓rd, Ty.c, hk, (ty i).oneT, (ty i).oneI, (ty i).oneF, ↓ldK_is a1, ↓ldnK_is a1, ↓g2, ↓ldK_is a2, ↓g3]
  cases (ty i).conMore with
  | true => exact ⟨σ2, rfl, f12⟩
  | false => exact ⟨σ3, rfl, f12.trans f3 (fun _ _ h => h)⟩
end
end
end Go.Proofs.YtpbdnlclihogfaaGreatDoor
set_option linter.all false
set_option maxRecDepth 100000
namespace Go.Proofs.YtpbdnlclihogfaaGreatDoor
open Go Go.Og
noncomputable section
/-- The cells of a value. -/
structure Vc where
  k : Int
  n : Int
  b : V
  l : V
  r : Int
  m : V
  oneB : b.one = true
  oneL : l.one = true
  oneM : m.one = true
def Vc.c (x : Vc) : List V := [.int .i64 x.k, .int .i64 x.n, x.b, x.l, .int .i64 x.r, x.m]
def Vc.int (n : Int) : Vc := ⟨Int.ofNat 2, n, .nils, .nils, Int.ofNat 0, .nils, rfl, rfl, rfl⟩
def Vc.abs : Vc := ⟨Int.ofNat 0, Int.ofNat 0, .nils, .nils, Int.ofNat 0, .nils, rfl, rfl, rfl⟩
/-- The first place at which it holds, from a place on. -/
def findF (p : Nat → Bool) : Nat → Nat → Int
  | 0, _ => Int.negSucc 0
  | m + 1, i => if p i = true then Int.ofNat i else findF p m (i + 1)
def anyF (p : Nat → Bool) : Nat → Nat → Bool
  | 0, _ => false
  | m + 1, i => p i || anyF p m (i + 1)
theorem find_any (p : Nat → Bool) : ∀ m i, leF (Int.ofNat 0) (findF p m i) = anyF p m i
  | 0, i => rfl
  | m + 1, i => by
    unfold findF anyF
    by_cases h : p i = true
    · rw [if_pos h, h]; simp only [leF_nat, Nat.zero_le, decide_true, Bool.true_or]
    · rw [if_neg h, find_any p m (i + 1)]; simp only [Bool.not_eq_true] at h; rw [h, Bool.false_or]
theorem any_none {p : Nat → Bool} : ∀ {m i : Nat}, (∀ k, i ≤ k → k < i + m → p k = false) → anyF p m i = false
  | 0, i, _ => rfl
  | m + 1, i, h => by
    unfold anyF
    rw [h i (Nat.le_refl _) (by omega), any_none (fun k h1 h2 => h k (by omega) (by omega))]; rfl
section
variable {D : Den} {W : DrawFn} {N : Nat} {σ σ' : H} {p nT : Nat} {ty : Nat → Ty} {nm : BS} {nv rv tv : V} {rest : List V}
/-- What a closure answers of each value of a list. -/
def Asks (D : Den) (σ : H) (f : Nat) (caps : List V) (n : Nat) (g : Nat → Vc) (q : Nat → Bool) : Prop := ∀ (σ1 : H) (k : Nat), k < n → Fr Nowhere σ σ1 → ∃ σ2, D f ([] ++ [.agg (g k).c] ++ caps) σ1 = some (.bool (q k), σ2) ∧ Fr Nowhere σ1 σ2
theorem ixV_F {v : V} {n : Nat} {g : Nat → Vc} {f : Nat} {caps : List V} {q : Nat → Bool} (ht : Tidy σ) (hr : Row σ 6 n v fun k => (g k).c) (hq : Asks D σ f caps n g q) (hN : n < N) (hn : n ≤ 1000000) :
    ∃ σ', F115 [] D W N [v, .fn f [] caps] σ = some (.int .i64 (findF q n 0), σ') ∧ Fr Nowhere σ σ' := by
  have loop : ∀ (m n' i : Nat) (σ1 : H), i + m = n → m < n' → Fr Nowhere σ σ1 → ∃ σ2, L115_2 [] D W N n' v (.fn f [] caps) (Int.ofNat n) (Int.ofNat i) σ1 = some (.int .i64 (findF q m i), σ2) ∧ Fr Nowhere σ σ2 := by
    intro m
    induction m with
    | zero =>
      intro n' i σ1 hi hn' f1
      obtain ⟨n', rfl⟩ : ∃ k, n' = k + 1 := ⟨n' - 1, by omega⟩
      refine ⟨σ1, ?_, f1⟩
      show T115_2 [] D W _ _ v (.fn f [] caps) (Int.ofNat n) (Int.ofNat i) σ1 = _
      unfold T115_2
      rw [ltF_nat, decide_eq_false (by omega), condK_false]; rfl
    | succ m ih =>
      intro n' i σ1 hi hn' f1
      obtain ⟨n', rfl⟩ : ∃ k, n' = k + 1 := ⟨n' - 1, by omega⟩
      have hlt : i < n := by omega
      have r1 := hr.fr0 f1 ht
      have rd : ∀ κ, iaddrSK 6 v (Int.ofNat i) (fun b o => ldnK [] σ1 b o 6 κ) = κ (g i).c := fun κ => r1.all hlt κ
      obtain ⟨σ2, g2, f2⟩ := hq σ1 i hlt f1
      have f12 := f1.trans f2 (fun _ _ h => h)
      show ∃ σ', T115_2 [] D W _ (L115_2 [] D W N n') v (.fn f [] caps) (Int.ofNat n) (Int.ofNat i) σ1 = _ ∧ _
      unfold T115_2
      have cv : ∀ κ, callvK D (.fn f [] caps) [.agg (g i).c] σ1 κ = κ (.bool (q i)) σ2 := fun κ => by
        show callK (D f ([] ++ [.agg (g i).c] ++ caps) σ1) κ = _
        rw [g2]; rfl
      unfold Vc.c at rd cv
      have d1 : decide (i < n) = true := decide_eq_true hlt
      simp -implicitDefEqProofs only [↓nthK_zero, ↓nthK_succ, ↓subK_2, ↓subK_4, ↓subK_5, ↓subK_6, ↓subK_13, ↓subK_con, ↓rtInt_int, ↓rtBool_bool, ↓rtStr_str, ↓rtPtr_ptr, ↓rtAgg_agg, ↓rtTup_tup, ↓rtCons_cons, ↓rtNil_nil, ↓rtOne_nils, ↓rtOne_pt, ↓rtOne_sl, ↓slenK_nils, ↓slenK_sl, ↓callK_some_, ↓condK_ift, ↓condK_iff, ↓chk_if, ↓joinB_, cells_agg, cells_int, cells_ptr, allOne_cons, allOne_nil, one_int, one_bool, one_str, one_nils, one_sl, one_ptr, Bool.and_true, Nat.add_eq, Nat.zero_add, Bool.not_true, Bool.not_false, eqF_nat, ltF_nat, leF_nat, Nat.reduceEqDiff, Nat.reduceLT, Nat.reduceLeDiff, decide_false, decide_true, Bool.false_or, Bool.true_or, Bool.or_false, Bool.or_true, Bool.false_and, Bool.true_and, Bool.and_false, d1, ↓rd, (g i).oneB, (g i).oneL, (g i).oneM, ↓cv]
      unfold findF
      by_cases hqi : q i = true
      · rw [hqi, condK_true, if_pos rfl]
        exact ⟨σ2, rfl, f12⟩
      · rw [Bool.not_eq_true] at hqi
        rw [hqi, condK_false, if_neg (by simp), addF_nat (by omega)]
        exact ih n' (i + 1) σ2 (by omega) (by omega) f12
  obtain ⟨σ2, h1, h2⟩ := loop n N 0 σ (by omega) hN (Fr.refl ht)
  refine ⟨σ2, ?_, h2⟩
  show T115_0 [] D W (L115_2 [] D W N N) v (.fn f [] caps) σ = _
  unfold T115_0
  rw [hr.len.2]
  exact h1
def SpIx (F : List V → H → Ans) (D : Den) : Prop := ∀ {σ : H} {v : V} {n : Nat} {g : Nat → Vc} {f : Nat} {caps : List V} {q : Nat → Bool}, Tidy σ → Row σ 6 n v (fun k => (g k).c) → Asks D σ f caps n g q → n ≤ 10000 →
    ∃ σ', F [v, .fn f [] caps] σ = some (.int .i64 (findF q n 0), σ') ∧ Fr Nowhere σ σ'
def SpCf (F : List V → H → Ans) (D : Den) : Prop := ∀ {σ : H} {v : V} {n : Nat} {g : Nat → Vc} {f : Nat} {caps : List V} {q : Nat → Bool}, Tidy σ → Row σ 6 n v (fun k => (g k).c) → Asks D σ f caps n g q → n ≤ 10000 →
    ∃ σ', F [v, .fn f [] caps] σ = some (.bool (anyF q n 0), σ') ∧ Fr Nowhere σ σ'
theorem cfV_F {D' : Den} (hI : SpIx (D 115) D') : SpCf (F65 [] D W N) D' := by
  intro σ v n g f caps q ht hr hq hn
  obtain ⟨σ2, h1, h2⟩ := hI ht hr hq hn
  refine ⟨σ2, ?_, h2⟩
  show T65_0 [] D W v (.fn f [] caps) σ = _
  unfold T65_0
  rw [h1, callK_some_, rtInt_int, find_any]
def SpFit (F : List V → H → Ans) (nT : Nat) (ty : Nat → Ty) (i : Nat) (v : Vc) : Prop := ∀ (σ : H) (p dp : Nat) (nm : BS) (nv rv tv : V) (rest : List V), Tidy σ → Ck σ p nT ty nm nv rv tv rest → dp ≤ 17 →
  ∃ σ', F [.ptr p 0, .int .i64 (Int.ofNat i), .agg v.c, .int .i64 (Int.ofNat dp)] σ = some (.bool true, σ') ∧ Fr Nowhere σ σ'
theorem list1_F {v : Vc} {i : Nat} (hF : SpFit (D 63) nT ty i v) (ht : Tidy σ) (hc : Ck σ p nT ty nm nv rv tv rest) {x : Ty} {qc qx qd dp : Nat} (ac : Atc σ qc [.ptr p 0]) (ax : Atc σ qx x.c) (ad : Atc σ qd [.int .i64 (Int.ofNat dp)]) (hx : x.of_ = Int.ofNat i) (hd : dp ≤ 16) :
    ∃ σ', F160 [] D W N ([] ++ [.agg v.c] ++ [.ptr qc 0, .ptr qx 0, .ptr qd 0]) σ = some (.bool false, σ') ∧ Fr Nowhere σ σ' := by
  obtain ⟨σ1, e1, f1, a1, n1⟩ := mk_new ht v.c
  have ac1 := f1.at_ ac ht (fun h => h)
  have ax1 := f1.at_ ax ht (fun h => h)
  have ad1 := f1.at_ ad ht (fun h => h)
  obtain ⟨σ2, g2, f2⟩ := hF σ1 p (dp + 1) nm nv rv tv rest f1.tidy (hc.fr f1 ht) (by omega)
  refine ⟨σ2, ?_, f1.trans f2 (fun _ _ h => h)⟩
  show T160_0 [] D W v.k v.n v.b v.l v.r v.m (.ptr qc 0) (.ptr qx 0) (.ptr qd 0) σ = _
  unfold T160_0
  unfold Vc.c at e1 a1 g2
  unfold Ty.c at ax1
  simp -implicitDefEqProofs only [↓nthK_zero, ↓nthK_succ, ↓subK_2, ↓subK_4, ↓subK_5, ↓subK_6, ↓subK_13, ↓subK_con, ↓rtInt_int, ↓rtBool_bool, ↓rtStr_str, ↓rtPtr_ptr, ↓rtAgg_agg, ↓rtTup_tup, ↓rtCons_cons, ↓rtNil_nil, ↓rtOne_nils, ↓rtOne_pt, ↓rtOne_sl, ↓slenK_nils, ↓slenK_sl, ↓callK_some_, ↓condK_ift, ↓condK_iff, ↓chk_if, ↓joinB_, cells_agg, cells_int, cells_ptr, allOne_cons, allOne_nil, one_int, one_bool, one_str, one_nils, one_sl, one_ptr, Bool.and_true, Nat.add_eq, Nat.zero_add, Bool.not_true, Bool.not_false, v.oneB, v.oneL, v.oneM, ↓e1, ↓ldK_is a1, ↓ldnK_is a1, ↓ldK_is ac1, ↓ldK_is ax1, ↓ldK_is ad1, hx, addF_nat (show dp + 1 ≤ 9223372036854775807 by omega), ↓g2]
end
end
end Go.Proofs.YtpbdnlclihogfaaGreatDoor
set_option linter.all false
set_option maxRecDepth 100000
namespace Go.Proofs.YtpbdnlclihogfaaGreatDoor
open Go Go.Og
noncomputable section
def Vc.lst (l : V) (h : l.one = true) : Vc := ⟨Int.ofNat 10, Int.ofNat 0, .nils, l, Int.ofNat 0, .nils, rfl, h, rfl⟩
def Vc.seq (l : V) (h : l.one = true) : Vc := ⟨Int.ofNat 7, Int.ofNat 0, .nils, l, Int.ofNat 0, .nils, rfl, h, rfl⟩
section
variable {D : Den} {W : DrawFn} {N : Nat} {σ σ' : H} {p nT : Nat} {ty : Nat → Ty} {nm : BS} {nv rv tv : V} {rest : List V}
theorem list_F {D' : Den} (hP : SpPlain (D 110)) (hW : SpWithin (D 111)) (hC : SpCf (D 65) D') {x : Ty} {i n : Nat} {g : Nat → Vc} {l : V} (hl : l.one = true)
    (hG : ∀ {σ : H}, Tidy σ → Ck σ p nT ty nm nv rv tv rest → ∀ {qc qx qd dp k : Nat}, k < n → Atc σ qc [.ptr p 0] → Atc σ qx x.c → Atc σ qd [.int .i64 (Int.ofNat dp)] → dp ≤ 16 → ∃ σ', D' 160 ([] ++ [.agg (g k).c] ++ [.ptr qc 0, .ptr qx 0, .ptr qd 0]) σ = some (.bool false, σ') ∧ Fr Nowhere σ σ')
    (ht : Tidy σ) (hc : Ck σ p nT ty nm nv rv tv rest) (hr : Row σ 6 n l fun k => (g k).c) (hx : x.has = false) {dp : Nat} (hd : dp ≤ 16) (hn : n ≤ 10000) :
    ∃ σ', F113 [] D W N [.ptr p 0, .agg x.c, .agg (Vc.lst l hl).c, .int .i64 (Int.ofNat dp)] σ = some (.bool true, σ') ∧ Fr Nowhere σ σ' := by
  obtain ⟨σ1, e1, f1, a1, n1⟩ := mk_new ht [.ptr p 0]
  obtain ⟨σ2, e2, f2, a2, n2⟩ := mk_new f1.tidy x.c
  obtain ⟨σ3, e3, f3, a3, n3⟩ := mk_new f2.tidy (Vc.lst l hl).c
  obtain ⟨σ4, e4, f4, a4, n4⟩ := mk_new f3.tidy [.int .i64 (Int.ofNat dp)]
  obtain ⟨σ5, g5, f5⟩ := hP σ4 (Int.ofNat 4) (Int.ofNat 10) (Int.ofNat 0) (Int.ofNat 0) .nils l .nils 0 n 0 f4.tidy Len.nils hr.len Len.nils
  rw [show plainB (Int.ofNat 4) (Int.ofNat 10) (Int.ofNat 0) 0 n (Int.ofNat 0) 0 = true from rfl] at g5
  have f15 : Fr Nowhere σ1 σ5 := ((f2.trans f3 (fun _ _ h => h)).trans f4 (fun _ _ h => h)).trans f5 (fun _ _ h => h)
  have f25 : Fr Nowhere σ2 σ5 := (f3.trans f4 (fun _ _ h => h)).trans f5 (fun _ _ h => h)
  have f35 : Fr Nowhere σ3 σ5 := f4.trans f5 (fun _ _ h => h)
  have a25 := f25.at_ a2 f2.tidy (fun h => h)
  have a35 := f35.at_ a3 f3.tidy (fun h => h)
  obtain ⟨σ6, g6, f6⟩ := hW σ5 x.has x.hasLow x.hasHigh x.conMore x.low x.high (Int.ofNat n) f5.tidy
  rw [show withinB x.has x.hasLow x.hasHigh x.low x.high (Int.ofNat n) = true by rw [hx]; rfl] at g6
  have f05 : Fr Nowhere σ σ5 := f1.trans f15 (fun _ _ h => h)
  -- the calls of the closure
  have last : ∀ σ7, Fr Nowhere σ5 σ7 → ∃ σ8, D 65 [l, .fn 160 [] [.ptr σ.next 0, .ptr σ1.next 0, .ptr σ3.next 0]] σ7 = some (.bool false, σ8) ∧ Fr Nowhere σ7 σ8 := by
    intro σ7 f7
    have f07 := f05.trans f7 (fun _ _ h => h)
    have b1 := (f15.trans f7 (fun _ _ h => h)).at_ a1 f1.tidy (fun h => h)
    have b2 := (f25.trans f7 (fun _ _ h => h)).at_ a2 f2.tidy (fun h => h)
    have b4 := (f5.trans f7 (fun _ _ h => h)).at_ a4 f4.tidy (fun h => h)
    obtain ⟨σ8, h1, h2⟩ := hC (σ := σ7) (caps := [.ptr σ.next 0, .ptr σ1.next 0, .ptr σ3.next 0]) (f := 160) (q := fun _ => false) f7.tidy (hr.fr0 f07 ht) (fun σ9 k hk f9 => by
      exact hG f9.tidy (hc.fr (f07.trans f9 (fun _ _ h => h)) ht) hk (f9.at_ b1 f7.tidy (fun h => h)) (f9.at_ b2 f7.tidy (fun h => h)) (f9.at_ b4 f7.tidy (fun h => h)) hd) hn
    exact ⟨σ8, by rw [h1, any_none (fun _ _ _ => rfl)], h2⟩
  show ∃ σ', T113_0 [] D W (.ptr p 0) x.kind x.tags x.has x.hasLow x.hasHigh x.conMore x.low x.high x.items x.fields x.root x.more x.of_ (Int.ofNat 10) (Int.ofNat 0) .nils l (Int.ofNat 0) .nils (Int.ofNat dp) σ = _ ∧ _
  unfold T113_0
  unfold Ty.c at e2 a25
  unfold Vc.c Vc.lst at e3 a35
  unfold vc at g5
  simp only [] at e3 a35
  have hln := hr.len.2
  have a34 : Atc σ4 σ2.next [.int .i64 (Int.ofNat 10), .int .i64 (Int.ofNat 0), .nils, l, .int .i64 (Int.ofNat 0), .nils] := f4.at_ a3 f3.tidy (fun h => h)
  cases hm : x.conMore with
  | true =>
    obtain ⟨σ8, g8, f8⟩ := last σ5 (Fr.refl f5.tidy)
    rw [hm] at e2 a25
    refine ⟨σ8, ?_, f05.trans f8 (fun _ _ h => h)⟩
    simp -implicitDefEqProofs only [↓nthK_zero, ↓nthK_succ, ↓subK_2, ↓subK_4, ↓subK_5, ↓subK_6, ↓subK_13, ↓subK_con, ↓rtInt_int, ↓rtBool_bool, ↓rtStr_str, ↓rtPtr_ptr, ↓rtAgg_agg, ↓rtTup_tup, ↓rtCons_cons, ↓rtNil_nil, ↓rtOne_nils, ↓rtOne_pt, ↓rtOne_sl, ↓slenK_nils, ↓slenK_sl, ↓callK_some_, ↓condK_ift, ↓condK_iff, ↓chk_if, ↓joinB_, cells_agg, cells_int, cells_ptr, allOne_cons, allOne_nil, one_int, one_bool, one_str, one_nils, one_sl, one_ptr, Bool.and_true, Nat.add_eq, Nat.zero_add, Bool.not_true, Bool.not_false, eqF_nat, ltF_nat, leF_nat, Nat.reduceEqDiff, Nat.reduceLT, Nat.reduceLeDiff, decide_false, decide_true, Bool.false_or, Bool.true_or, Bool.or_false, Bool.or_true, Bool.false_and, Bool.true_and, Bool.and_false, x.oneT, x.oneI, x.oneF, hl, ↓e1, ↓e2, ↓e3, ↓e4, ↓ldK_is a25, ↓ldnK_is a25, ↓ldK_is a35, ↓ldnK_is a35, ↓ldnK_is a34, ↓g5, ↓hln, ↓g8]
  | false =>
    obtain ⟨σ8, g8, f8⟩ := last σ6 f6
    rw [hm] at e2 a25 g6
    have a36 := f6.at_ a35 f5.tidy (fun h => h)
    refine ⟨σ8, ?_, (f05.trans f6 (fun _ _ h => h)).trans f8 (fun _ _ h => h)⟩
    simp -implicitDefEqProofs only [↓nthK_zero, ↓nthK_succ, ↓subK_2, ↓subK_4, ↓subK_5, ↓subK_6, ↓subK_13, ↓subK_con, ↓rtInt_int, ↓rtBool_bool, ↓rtStr_str, ↓rtPtr_ptr, ↓rtAgg_agg, ↓rtTup_tup, ↓rtCons_cons, ↓rtNil_nil, ↓rtOne_nils, ↓rtOne_pt, ↓rtOne_sl, ↓slenK_nils, ↓slenK_sl, ↓callK_some_, ↓condK_ift, ↓condK_iff, ↓chk_if, ↓joinB_, cells_agg, cells_int, cells_ptr, allOne_cons, allOne_nil, one_int, one_bool, one_str, one_nils, one_sl, one_ptr, Bool.and_true, Nat.add_eq, Nat.zero_add, Bool.not_true, Bool.not_false, eqF_nat, ltF_nat, leF_nat, Nat.reduceEqDiff, Nat.reduceLT, Nat.reduceLeDiff, decide_false, decide_true, Bool.false_or, Bool.true_or, Bool.or_false, Bool.or_true, Bool.false_and, Bool.true_and, Bool.and_false, x.oneT, x.oneI, x.oneF, hl, ↓e1, ↓e2, ↓e3, ↓e4, ↓ldK_is a25, ↓ldnK_is a25, ↓ldK_is a35, ↓ldnK_is a35, ↓ldK_is a36, ↓ldnK_is a34, ↓g5, ↓hln, ↓g6, ↓g8]
end
end
end Go.Proofs.YtpbdnlclihogfaaGreatDoor
set_option linter.all false
set_option maxRecDepth 100000
namespace Go.Proofs.YtpbdnlclihogfaaGreatDoor
open Go Go.Og
noncomputable section
section
variable {D : Den} {W : DrawFn} {N : Nat} {σ σ' : H} {p nT : Nat} {ty : Nat → Ty} {nm : BS} {nv rv tv : V} {rest : List V}
theorem raws_F (ht : Tidy σ) (hc : Ck σ p nT ty nm nv rv tv rest) {i : Nat} (hi : i < nT) (v : Vc) (hm : v.m = .nils) (hr : v.r = Int.ofNat 0) :
    ∃ σ', F161 [] D W N [.ptr p 0, .int .i64 (Int.ofNat i), .agg v.c] σ = some (.bool true, σ') ∧ Fr Nowhere σ σ' := by
  obtain ⟨σ1, e1, f1, a1, n1⟩ := mk_new ht v.c
  have c1 := hc.fr f1 ht
  have rd : ∀ κ, iaddrSK 13 tv (Int.ofNat i) (fun b o => ldnK [] σ1 b o 13 κ) = κ (ty i).c := fun κ => c1.row.all hi κ
  refine ⟨σ1, ?_, f1⟩
  show T161_0 [] D W _ p 0 (Int.ofNat i) v.k v.n v.b v.l v.r v.m σ = _
  unfold T161_0
  unfold Vc.c at e1 a1
  rw [hm, hr] at e1 a1
  rw [hm, hr]
  simp -implicitDefEqProofs only [↓nthK_zero, ↓nthK_succ, ↓subK_2, ↓subK_4, ↓subK_5, ↓subK_6, ↓subK_13, ↓subK_con, ↓rtInt_int, ↓rtBool_bool, ↓rtStr_str, ↓rtPtr_ptr, ↓rtAgg_agg, ↓rtTup_tup, ↓rtCons_cons, ↓rtNil_nil, ↓rtOne_nils, ↓rtOne_pt, ↓rtOne_sl, ↓slenK_nils, ↓slenK_sl, ↓callK_some_, ↓condK_ift, ↓condK_iff, ↓chk_if, ↓joinB_, cells_agg, cells_int, cells_ptr, allOne_cons, allOne_nil, one_int, one_bool, one_str, one_nils, one_sl, one_ptr, Bool.and_true, Nat.add_eq, Nat.zero_add, Bool.not_true, Bool.not_false, eqF_nat, ltF_nat, leF_nat, Nat.reduceEqDiff, Nat.reduceLT, Nat.reduceLeDiff, decide_false, decide_true, Bool.false_or, Bool.true_or, Bool.or_false, Bool.or_true, Bool.false_and, Bool.true_and, Bool.and_false, v.oneB, v.oneL, ↓e1, ↓c1.types, ↓rd, Ty.c, (ty i).oneT, (ty i).oneI, (ty i).oneF, ↓ldK_is a1, ↓ldnK_is a1]
theorem places_F (hN : 0 < N) (ht : Tidy σ) {a b : Int} (h : ltF a b = false) :
    F208 [] D W N [.int .i64 a, .int .i64 b] σ = some (.nils, σ) := by
  obtain ⟨N, rfl⟩ : ∃ k, N = k + 1 := ⟨N - 1, by omega⟩
  show T208_2 [] D W _ _ b .nils a σ = _
  unfold T208_2
  rw [h, condK_false]; rfl
theorem there_F (ht : Tidy σ) (hr : Row σ 13 nT tv fun i => (ty i).c) (hn : nv.one = true) (hrv : rv.one = true) (htv : tv.one = true) {i : Nat} (hi : i < nT) :
    ∃ σ', F207 [] D W N [.agg [.str nm, nv, rv, tv], .int .i64 (Int.ofNat i)] σ = some (.agg (ty i).c, σ') ∧ Fr Nowhere σ σ' := by
  obtain ⟨σ1, e1, f1, a1, n1⟩ := mk_new ht [.str nm, nv, rv, tv]
  have r1 := hr.fr0 f1 ht
  have rd : ∀ κ, iaddrSK 13 tv (Int.ofNat i) (fun b o => ldnK [] σ1 b o 13 κ) = κ (ty i).c := fun κ => r1.all hi κ
  have d1 : decide (nT ≤ i) = false := decide_eq_false (by omega)
  have hl := r1.len.2
  refine ⟨σ1, ?_, f1⟩
  show T207_0 [] D W nm nv rv tv (Int.ofNat i) σ = _
  unfold T207_0
  simp -implicitDefEqProofs only [↓nthK_zero, ↓nthK_succ, ↓subK_2, ↓subK_4, ↓subK_5, ↓subK_6, ↓subK_13, ↓subK_con, ↓rtInt_int, ↓rtBool_bool, ↓rtStr_str, ↓rtPtr_ptr, ↓rtAgg_agg, ↓rtTup_tup, ↓rtCons_cons, ↓rtNil_nil, ↓rtOne_nils, ↓rtOne_pt, ↓rtOne_sl, ↓slenK_nils, ↓slenK_sl, ↓callK_some_, ↓condK_ift, ↓condK_iff, ↓chk_if, ↓joinB_, cells_agg, cells_int, cells_ptr, allOne_cons, allOne_nil, one_int, one_bool, one_str, one_nils, one_sl, one_ptr, Bool.and_true, Nat.add_eq, Nat.zero_add, Bool.not_true, Bool.not_false, eqF_nat, ltF_nat, leF_nat, Nat.reduceEqDiff, Nat.reduceLT, Nat.reduceLeDiff, decide_false, decide_true, Bool.false_or, Bool.true_or, Bool.or_false, Bool.or_true, Bool.false_and, Bool.true_and, Bool.and_false, Nat.not_lt_zero, hn, hrv, htv, ↓e1, ↓hl, d1, ↓rd, Ty.c, (ty i).oneT, (ty i).oneI, (ty i).oneF, ↓ldK_is a1, ↓ldnK_is a1]
/-- A sequence without additions. -/
structure SeqTy (σ : H) (x : Ty) (nf : Nat) (fd : Nat → Fd) : Prop where
  kind : x.kind = Int.ofNat 7
  row : Row σ 11 nf x.fields fun k => (fd k).c
  root : x.root = Int.ofNat nf
  small : nf ≤ 1000
theorem SeqTy.fr {x : Ty} {nf : Nat} {fd : Nat → Fd} (h : SeqTy σ x nf fd) (f : Fr Nowhere σ σ') (ht : Tidy σ) : SeqTy σ' x nf fd := ⟨h.kind, h.row.fr0 f ht, h.root, h.small⟩
def SpThere (F : List V → H → Ans) : Prop := ∀ {σ : H} {nT : Nat} {ty : Nat → Ty} {nm : BS} {nv rv tv : V}, Tidy σ → Row σ 13 nT tv (fun i => (ty i).c) → nv.one = true → rv.one = true → tv.one = true → ∀ {i : Nat}, i < nT →
  ∃ σ', F [.agg [.str nm, nv, rv, tv], .int .i64 (Int.ofNat i)] σ = some (.agg (ty i).c, σ') ∧ Fr Nowhere σ σ'
def SpPlaces (F : List V → H → Ans) : Prop := ∀ {σ : H} {a b : Int}, Tidy σ → ltF a b = false → F [.int .i64 a, .int .i64 b] σ = some (.nils, σ)
theorem max_nat (n : Nat) : maxF (Int.ofNat n) (Int.ofNat 0) = Int.ofNat n := by
  unfold maxF; cases n <;> rfl
theorem slots_F (hN : 0 < N) (hT : SpThere (D 207)) (hP : SpPlaces (D 208)) (ht : Tidy σ) (hr : Row σ 13 nT tv fun i => (ty i).c) (hn : nv.one = true) (hrv : rv.one = true) (htv : tv.one = true) {i : Nat} (hi : i < nT) {nf : Nat} {fd : Nat → Fd} (hs : SeqTy σ (ty i) nf fd) :
    ∃ σ', F187 [] D W N [.agg [.str nm, nv, rv, tv], .int .i64 (Int.ofNat i)] σ = some (.nils, σ') ∧ Fr Nowhere σ σ' := by
  obtain ⟨σ1, e1, f1, a1, n1⟩ := mk_new ht [.str nm, nv, rv, tv]
  obtain ⟨σ2, g2, f2⟩ := hT (nm := nm) f1.tidy (hr.fr0 f1 ht) hn hrv htv hi
  have g3 := hP (a := Int.ofNat nf) (b := Int.ofNat nf) f2.tidy (by rw [ltF_nat, decide_eq_false (by omega)])
  obtain ⟨N, rfl⟩ : ∃ k, N = k + 1 := ⟨N - 1, by omega⟩
  have hl := hs.row.len.2
  refine ⟨σ2, ?_, f1.trans f2 (fun _ _ h => h)⟩
  unfold Ty.c at g2
  have key : ∀ K, T187_0 [] D W K nm nv rv tv (Int.ofNat i) σ = K .nils .nils (Int.ofNat 0) (Int.ofNat 0) (ty i).kind (ty i).tags (ty i).has (ty i).hasLow (ty i).hasHigh (ty i).conMore (ty i).low (ty i).high (ty i).items (ty i).fields (ty i).root (ty i).more (ty i).of_ σ2 := by
    intro K
    unfold T187_0
    simp -implicitDefEqProofs only [↓nthK_zero, ↓nthK_succ, ↓subK_2, ↓subK_4, ↓subK_5, ↓subK_6, ↓subK_13, ↓subK_con, ↓rtInt_int, ↓rtBool_bool, ↓rtStr_str, ↓rtPtr_ptr, ↓rtAgg_agg, ↓rtTup_tup, ↓rtCons_cons, ↓rtNil_nil, ↓rtOne_nils, ↓rtOne_pt, ↓rtOne_sl, ↓slenK_nils, ↓slenK_sl, ↓callK_some_, ↓condK_ift, ↓condK_iff, ↓chk_if, ↓joinB_, cells_agg, cells_int, cells_ptr, allOne_cons, allOne_nil, one_int, one_bool, one_str, one_nils, one_sl, one_ptr, Bool.and_true, Nat.add_eq, Nat.zero_add, Bool.not_true, Bool.not_false, eqF_nat, ltF_nat, leF_nat, Nat.reduceEqDiff, Nat.reduceLT, Nat.reduceLeDiff, decide_false, decide_true, Bool.false_or, Bool.true_or, Bool.or_false, Bool.or_true, Bool.false_and, Bool.true_and, Bool.and_false, hn, hrv, htv, ↓e1, ↓g2, (ty i).oneT, (ty i).oneI, (ty i).oneF, hs.kind, hs.root, ↓hl, max_nat, ↓g3, ↓ldK_is a1, ↓ldnK_is a1]
  refine (key _).trans ?_
  kernel_rfl
def SpSlots (F : List V → H → Ans) : Prop := ∀ {σ : H} {nT : Nat} {ty : Nat → Ty} {nm : BS} {nv rv tv : V}, Tidy σ → Row σ 13 nT tv (fun i => (ty i).c) → nv.one = true → rv.one = true → tv.one = true → ∀ {i nf : Nat} {fd : Nat → Fd}, i < nT → SeqTy σ (ty i) nf fd →
  ∃ σ', F [.agg [.str nm, nv, rv, tv], .int .i64 (Int.ofNat i)] σ = some (.nils, σ') ∧ Fr Nowhere σ σ'
theorem groups_F (hN : 0 < N) (hS : SpSlots (D 187)) (ht : Tidy σ) (hc : Ck σ p nT ty nm nv rv tv [.bool false]) {i : Nat} (hi : i < nT) {nf : Nat} {fd : Nat → Fd} (hs : SeqTy σ (ty i) nf fd) (v : Vc) :
    ∃ σ', F164 [] D W N [.ptr p 0, .int .i64 (Int.ofNat i), .agg v.c] σ = some (.bool true, σ') ∧ Fr Nowhere σ σ' := by
  obtain ⟨σ1, e1, f1, a1, n1⟩ := mk_new ht v.c
  have c1 := hc.fr f1 ht
  have rd : ∀ κ, iaddrSK 13 tv (Int.ofNat i) (fun b o => ldnK [] σ1 b o 13 κ) = κ (ty i).c := fun κ => c1.row.all hi κ
  obtain ⟨σ2, g2, f2⟩ := hS (nm := nm) f1.tidy c1.row c1.n1 c1.r1 c1.t1 hi (hs.fr f1 ht)
  obtain ⟨N, rfl⟩ : ∃ k, N = k + 1 := ⟨N - 1, by omega⟩
  have pt := c1.at_
  refine ⟨σ2, ?_, f1.trans f2 (fun _ _ h => h)⟩
  unfold Vc.c at e1 a1
  simp only [List.cons_append, List.nil_append] at pt
  have key : ∀ K, T164_0 [] D W K p 0 (Int.ofNat i) v.k v.n v.b v.l v.r v.m σ = K σ.next 0 .nils (Int.ofNat 0) (Int.ofNat 0) (ty i).kind (ty i).tags (ty i).has (ty i).hasLow (ty i).hasHigh (ty i).conMore (ty i).low (ty i).high (ty i).items (ty i).fields (ty i).root (ty i).more (ty i).of_ σ2 := by
    intro K
    unfold T164_0
    simp -implicitDefEqProofs only [↓nthK_zero, ↓nthK_succ, ↓subK_2, ↓subK_4, ↓subK_5, ↓subK_6, ↓subK_13, ↓subK_con, ↓rtInt_int, ↓rtBool_bool, ↓rtStr_str, ↓rtPtr_ptr, ↓rtAgg_agg, ↓rtTup_tup, ↓rtCons_cons, ↓rtNil_nil, ↓rtOne_nils, ↓rtOne_pt, ↓rtOne_sl, ↓slenK_nils, ↓slenK_sl, ↓callK_some_, ↓condK_ift, ↓condK_iff, ↓chk_if, ↓joinB_, cells_agg, cells_int, cells_ptr, allOne_cons, allOne_nil, one_int, one_bool, one_str, one_nils, one_sl, one_ptr, Bool.and_true, Nat.add_eq, Nat.zero_add, Bool.not_true, Bool.not_false, eqF_nat, ltF_nat, leF_nat, Nat.reduceEqDiff, Nat.reduceLT, Nat.reduceLeDiff, decide_false, decide_true, Bool.false_or, Bool.true_or, Bool.or_false, Bool.or_true, Bool.false_and, Bool.true_and, Bool.and_false, c1.n1, c1.r1, c1.t1, v.oneB, v.oneL, v.oneM, ↓e1, ↓c1.types, ↓rd, Ty.c, (ty i).oneT, (ty i).oneI, (ty i).oneF, ↓ldnK_is pt, ↓g2]
  refine (key _).trans ?_
  kernel_rfl
end
end
end Go.Proofs.YtpbdnlclihogfaaGreatDoor
set_option linter.all false
set_option maxRecDepth 100000
namespace Go.Proofs.YtpbdnlclihogfaaGreatDoor
open Go Go.Og
noncomputable section
def SpAbs (F : List V → H → Ans) : Prop := ∀ {σ : H}, Tidy σ → ∀ (v : Vc) {nb nl nm : Nat}, Len v.b nb → Len v.l nl → Len v.m nm → ∃ σ', F [.agg v.c] σ = some (.bool (eqF v.k (Int.ofNat 0) && plainB (Int.ofNat 0) v.k v.n nb nl v.r nm), σ') ∧ Fr Nowhere σ σ'
def SpLoose (F : List V → H → Ans) : Prop := ∀ {σ : H}, Tidy σ → ∀ (x : Ty) {nf : Nat} {fd : Nat → Fd}, Row σ 11 nf x.fields (fun k => (fd k).c) → ∀ {k : Nat}, k < nf → ∃ σ', F [.agg x.c, .int .i64 (Int.ofNat k)] σ = some (.bool (((fd k).opt || (fd k).has) || leF x.root (Int.ofNat k)), σ') ∧ Fr Nowhere σ σ'
/-- A field's value: none, which it may be, or one that fits. -/
def FitF (F : List V → H → Ans) (nT : Nat) (ty : Nat → Ty) (f : Fd) (v : Vc) : Prop := (v = Vc.abs ∧ f.opt = true) ∨ (eqF v.k (Int.ofNat 0) = false ∧ f.has = false ∧ ∃ j, f.type = Int.ofNat j ∧ SpFit F nT ty j v)
section
variable {D : Den} {W : DrawFn} {N : Nat} {σ σ' : H} {p nT : Nat} {ty : Nat → Ty} {nm : BS} {nv rv tv : V} {rest : List V}
theorem fieldsStep0 (hA : SpAbs (D 119)) (hL : SpLoose (D 162)) {x : Ty} {nf : Nat} {fd : Nat → Fd} {g : Nat → Vc} {l : V} {i dp q k : Nat} (hv : g k = Vc.abs) (ho : (fd k).opt = true) (hlt : k < nf) (ht : Tidy σ) (hs : SeqTy σ x nf fd) (hr : Row σ 6 nf l (fun k => (g k).c)) (qa : Atc σ q [.int .i64 (Int.ofNat 7), .int .i64 (Int.ofNat 0), .nils, l, .int .i64 (Int.ofNat 0), .nils]) :
    ∃ σ2, Fr Nowhere σ σ2 ∧ ∀ K1 K3, T114_2 [] D W K1 K3 p 0 (Int.ofNat i) (Int.ofNat dp) q 0 x.fields (Int.ofNat nf) (Int.ofNat k) x.kind x.tags x.has x.hasLow x.hasHigh x.conMore x.low x.high x.items x.fields x.root x.more x.of_ σ = K3 p 0 (Int.ofNat i) (Int.ofNat dp) q 0 x.fields (Int.ofNat nf) (Int.ofNat k) x.kind x.tags x.has x.hasLow x.hasHigh x.conMore x.low x.high x.items x.fields x.root x.more x.of_ σ2 := by
  have rf : ∀ κ, iaddrSK 11 x.fields (Int.ofNat k) (fun b o => ldnK [] σ b o 11 κ) = κ (fd k).c := fun κ => hs.row.all hlt κ
  have rg : ∀ κ, iaddrSK 6 l (Int.ofNat k) (fun b o => ldnK [] σ b o 6 κ) = κ (g k).c := fun κ => hr.all hlt κ
  have d1 : decide (k < nf) = true := decide_eq_true hlt
  obtain ⟨σ2, g2, f2⟩ := hA ht Vc.abs (nb := 0) (nl := 0) (nm := 0) Len.nils Len.nils Len.nils
  obtain ⟨σ3, g3, f3⟩ := hL f2.tidy x (hs.row.fr0 f2 ht) hlt
  rw [ho] at g3
  rw [show (eqF Vc.abs.k (Int.ofNat 0) && plainB (Int.ofNat 0) Vc.abs.k Vc.abs.n 0 0 Vc.abs.r 0) = true from rfl] at g2
  rw [hv] at rg
  unfold Vc.c Vc.abs at rg g2
  unfold Ty.c at g3
  unfold Fd.c at rf
  refine ⟨σ3, f2.trans f3 (fun _ _ h => h), fun K1 K3 => ?_⟩
  unfold T114_2
  simp only [Bool.true_or] at g3
  simp -implicitDefEqProofs only [↓nthK_zero, ↓nthK_succ, ↓subK_2, ↓subK_4, ↓subK_5, ↓subK_6, ↓subK_13, ↓subK_con, ↓rtInt_int, ↓rtBool_bool, ↓rtStr_str, ↓rtPtr_ptr, ↓rtAgg_agg, ↓rtTup_tup, ↓rtCons_cons, ↓rtNil_nil, ↓rtOne_nils, ↓rtOne_pt, ↓rtOne_sl, ↓slenK_nils, ↓slenK_sl, ↓callK_some_, ↓condK_ift, ↓condK_iff, ↓chk_if, ↓joinB_, cells_agg, cells_int, cells_ptr, allOne_cons, allOne_nil, one_int, one_bool, one_str, one_nils, one_sl, one_ptr, Bool.and_true, Nat.add_eq, Nat.zero_add, Bool.not_true, Bool.not_false, eqF_nat, ltF_nat, leF_nat, Nat.reduceEqDiff, Nat.reduceLT, Nat.reduceLeDiff, decide_false, decide_true, Bool.false_or, Bool.true_or, Bool.or_false, Bool.or_true, Bool.false_and, Bool.true_and, Bool.and_false, d1, ↓rf, (fd k).one2, (fd k).one3, (fd k).one5, ↓ldK_is qa, ↓rg, ↓g2, ↓g3]
theorem fieldsStep1 {x : Ty} {nf : Nat} {fd : Nat → Fd} {g : Nat → Vc} {l : V} {i dp q k j : Nat} (hv : eqF (g k).k (Int.ofNat 0) = false) (hh : (fd k).has = false) (hj : (fd k).type = Int.ofNat j) (hfit : SpFit (D 63) nT ty j (g k)) (hd : dp ≤ 16) (hlt : k < nf) (ht : Tidy σ) (hc : Ck σ p nT ty nm nv rv tv rest) (hs : SeqTy σ x nf fd) (hr : Row σ 6 nf l (fun k => (g k).c)) (qa : Atc σ q [.int .i64 (Int.ofNat 7), .int .i64 (Int.ofNat 0), .nils, l, .int .i64 (Int.ofNat 0), .nils]) :
    ∃ σ2, Fr Nowhere σ σ2 ∧ ∀ K1 K3, T114_2 [] D W K1 K3 p 0 (Int.ofNat i) (Int.ofNat dp) q 0 x.fields (Int.ofNat nf) (Int.ofNat k) x.kind x.tags x.has x.hasLow x.hasHigh x.conMore x.low x.high x.items x.fields x.root x.more x.of_ σ = K3 p 0 (Int.ofNat i) (Int.ofNat dp) q 0 x.fields (Int.ofNat nf) (Int.ofNat k) x.kind x.tags x.has x.hasLow x.hasHigh x.conMore x.low x.high x.items x.fields x.root x.more x.of_ σ2 := by
  have rf : ∀ κ, iaddrSK 11 x.fields (Int.ofNat k) (fun b o => ldnK [] σ b o 11 κ) = κ (fd k).c := fun κ => hs.row.all hlt κ
  have rg : ∀ κ, iaddrSK 6 l (Int.ofNat k) (fun b o => ldnK [] σ b o 6 κ) = κ (g k).c := fun κ => hr.all hlt κ
  have d1 : decide (k < nf) = true := decide_eq_true hlt
  obtain ⟨σ2, g2, f2⟩ := hfit σ p (dp + 1) nm nv rv tv rest ht hc (by omega)
  unfold Vc.c at rg g2
  unfold Fd.c at rf
  refine ⟨σ2, f2, fun K1 K3 => ?_⟩
  unfold T114_2
  simp -implicitDefEqProofs only [↓nthK_zero, ↓nthK_succ, ↓subK_2, ↓subK_4, ↓subK_5, ↓subK_6, ↓subK_13, ↓subK_con, ↓rtInt_int, ↓rtBool_bool, ↓rtStr_str, ↓rtPtr_ptr, ↓rtAgg_agg, ↓rtTup_tup, ↓rtCons_cons, ↓rtNil_nil, ↓rtOne_nils, ↓rtOne_pt, ↓rtOne_sl, ↓slenK_nils, ↓slenK_sl, ↓callK_some_, ↓condK_ift, ↓condK_iff, ↓chk_if, ↓joinB_, cells_agg, cells_int, cells_ptr, allOne_cons, allOne_nil, one_int, one_bool, one_str, one_nils, one_sl, one_ptr, Bool.and_true, Nat.add_eq, Nat.zero_add, Bool.not_true, Bool.not_false, eqF_nat, ltF_nat, leF_nat, Nat.reduceEqDiff, Nat.reduceLT, Nat.reduceLeDiff, decide_false, decide_true, Bool.false_or, Bool.true_or, Bool.or_false, Bool.or_true, Bool.false_and, Bool.true_and, Bool.and_false, d1, ↓rf, (fd k).one2, (fd k).one3, (fd k).one5, ↓ldK_is qa, ↓rg, (g k).oneB, (g k).oneL, (g k).oneM, hv, hh, hj, addF_nat (show dp + 1 ≤ 9223372036854775807 by omega), ↓g2]
theorem fieldsLoop (hA : SpAbs (D 119)) (hL : SpLoose (D 162)) {x : Ty} {nf : Nat} {fd : Nat → Fd} {g : Nat → Vc} {l : V} {hl : l.one = true} {i dp q : Nat} (hF : ∀ k, k < nf → FitF (D 63) nT ty (fd k) (g k)) (hd : dp ≤ 16) :
    ∀ (m n' k : Nat) (σ : H), k + m = nf → m < n' → Tidy σ → Ck σ p nT ty nm nv rv tv rest → SeqTy σ x nf fd → Row σ 6 nf l (fun k => (g k).c) → Atc σ q (Vc.seq l hl).c →
      ∃ σ', L114_2 [] D W N n' p 0 (Int.ofNat i) (Int.ofNat dp) q 0 x.fields (Int.ofNat nf) (Int.ofNat k) x.kind x.tags x.has x.hasLow x.hasHigh x.conMore x.low x.high x.items x.fields x.root x.more x.of_ σ = J114_1 [] D W N p 0 (Int.ofNat i) q 0 σ' ∧ Fr Nowhere σ σ' := by
  intro m
  induction m with
  | zero =>
    intro n' k σ hk hn' ht hc hs hr hq
    obtain ⟨n', rfl⟩ : ∃ k, n' = k + 1 := ⟨n' - 1, by omega⟩
    refine ⟨σ, ?_, Fr.refl ht⟩
    show T114_2 [] D W _ _ p 0 (Int.ofNat i) (Int.ofNat dp) q 0 x.fields (Int.ofNat nf) (Int.ofNat k) _ _ _ _ _ _ _ _ _ _ _ _ _ σ = _
    unfold T114_2
    rw [ltF_nat, decide_eq_false (by omega), condK_false]
  | succ m ih =>
    intro n' k σ hk hn' ht hc hs hr hq
    obtain ⟨n', rfl⟩ : ∃ k, n' = k + 1 := ⟨n' - 1, by omega⟩
    have hlt : k < nf := by omega
    have sm := hs.small
    have step : ∃ σ2, Fr Nowhere σ σ2 ∧ ∀ K1 K3, T114_2 [] D W K1 K3 p 0 (Int.ofNat i) (Int.ofNat dp) q 0 x.fields (Int.ofNat nf) (Int.ofNat k) x.kind x.tags x.has x.hasLow x.hasHigh x.conMore x.low x.high x.items x.fields x.root x.more x.of_ σ = K3 p 0 (Int.ofNat i) (Int.ofNat dp) q 0 x.fields (Int.ofNat nf) (Int.ofNat k) x.kind x.tags x.has x.hasLow x.hasHigh x.conMore x.low x.high x.items x.fields x.root x.more x.of_ σ2 := by
      rcases hF k hlt with ⟨hv, ho⟩ | ⟨hv, hh, j, hj, hfit⟩
      · exact fieldsStep0 hA hL hv ho hlt ht hs hr hq
      · exact fieldsStep1 hv hh hj hfit hd hlt ht hc hs hr hq
    obtain ⟨σ2, f2, step⟩ := step
    obtain ⟨σ3, h3, f3⟩ := ih n' (k + 1) σ2 (by omega) (by omega) f2.tidy (hc.fr f2 ht) (hs.fr f2 ht) (hr.fr0 f2 ht) (f2.at_ hq ht (fun h => h))
    refine ⟨σ3, ?_, f2.trans f3 (fun _ _ h => h)⟩
    refine (step _ _).trans ?_
    show T114_3 [] D W (L114_2 [] D W N n') p 0 (Int.ofNat i) (Int.ofNat dp) q 0 x.fields (Int.ofNat nf) (Int.ofNat k) x.kind x.tags x.has x.hasLow x.hasHigh x.conMore x.low x.high x.items x.fields x.root x.more x.of_ σ2 = _
    unfold T114_3
    rw [addF_nat (by omega)]
    exact h3
def SpRaws (F : List V → H → Ans) : Prop := ∀ {σ : H} {p nT : Nat} {ty : Nat → Ty} {nm : BS} {nv rv tv : V} {rest : List V}, Tidy σ → Ck σ p nT ty nm nv rv tv rest → ∀ {i : Nat}, i < nT → ∀ (v : Vc), v.m = .nils → v.r = Int.ofNat 0 → ∃ σ', F [.ptr p 0, .int .i64 (Int.ofNat i), .agg v.c] σ = some (.bool true, σ') ∧ Fr Nowhere σ σ'
def SpGroups (F : List V → H → Ans) : Prop := ∀ {σ : H} {p nT : Nat} {ty : Nat → Ty} {nm : BS} {nv rv tv : V}, Tidy σ → Ck σ p nT ty nm nv rv tv [.bool false] → ∀ {i nf : Nat} {fd : Nat → Fd}, i < nT → SeqTy σ (ty i) nf fd → ∀ (v : Vc), ∃ σ', F [.ptr p 0, .int .i64 (Int.ofNat i), .agg v.c] σ = some (.bool true, σ') ∧ Fr Nowhere σ σ'
theorem fields_F (hP : SpPlain (D 110)) (hR : SpRaws (D 161)) (hG : SpGroups (D 164)) (hA : SpAbs (D 119)) (hL : SpLoose (D 162)) {nf : Nat} {fd : Nat → Fd} {g : Nat → Vc} {l : V} {hl : l.one = true} {i dp : Nat} (hF : ∀ k, k < nf → FitF (D 63) nT ty (fd k) (g k)) (hd : dp ≤ 16) (hi : i < nT) (hN : nf < N)
    (ht : Tidy σ) (hc : Ck σ p nT ty nm nv rv tv [.bool false]) (hs : SeqTy σ (ty i) nf fd) (hr : Row σ 6 nf l (fun k => (g k).c)) :
    ∃ σ', F114 [] D W N [.ptr p 0, .int .i64 (Int.ofNat i), .agg (Vc.seq l hl).c, .int .i64 (Int.ofNat dp)] σ = some (.bool true, σ') ∧ Fr Nowhere σ σ' := by
  obtain ⟨σ1, e1, f1, a1, n1⟩ := mk_new ht (Vc.seq l hl).c
  have c1 := hc.fr f1 ht
  have rd : ∀ κ, iaddrSK 13 tv (Int.ofNat i) (fun b o => ldnK [] σ1 b o 13 κ) = κ (ty i).c := fun κ => c1.row.all hi κ
  obtain ⟨σ2, g2, f2⟩ := hP σ1 (Int.ofNat 12) (Int.ofNat 7) (Int.ofNat 0) (Int.ofNat 0) .nils l .nils 0 nf 0 f1.tidy Len.nils hr.len Len.nils
  rw [show plainB (Int.ofNat 12) (Int.ofNat 7) (Int.ofNat 0) 0 nf (Int.ofNat 0) 0 = true from rfl] at g2
  have f02 := f1.trans f2 (fun _ _ h => h)
  obtain ⟨σ3, g3, f3⟩ := hR f2.tidy (hc.fr f02 ht) hi (Vc.seq l hl) rfl rfl
  have f03 := f02.trans f3 (fun _ _ h => h)
  have a2 : Atc σ2 σ.next [.int .i64 (Int.ofNat 7), .int .i64 (Int.ofNat 0), .nils, l, .int .i64 (Int.ofNat 0), .nils] := f2.at_ a1 f1.tidy (fun h => h)
  have a3 : Atc σ3 σ.next (Vc.seq l hl).c := f3.at_ a2 f2.tidy (fun h => h)
  obtain ⟨σ4, h4, f4⟩ := fieldsLoop (W := W) (N := N) (i := i) (q := σ.next) hA hL hF hd nf N 0 σ3 (by omega) hN f3.tidy (hc.fr f03 ht) (hs.fr f03 ht) (hr.fr0 f03 ht) a3
  have f04 := f03.trans f4 (fun _ _ h => h)
  obtain ⟨σ5, g5, f5⟩ := hG f4.tidy (hc.fr f04 ht) hi (hs.fr f04 ht) (Vc.seq l hl)
  have a4 : Atc σ4 σ.next [.int .i64 (Int.ofNat 7), .int .i64 (Int.ofNat 0), .nils, l, .int .i64 (Int.ofNat 0), .nils] := f4.at_ a3 f3.tidy (fun h => h)
  refine ⟨σ5, ?_, f04.trans f5 (fun _ _ h => h)⟩
  have hln := hr.len.2
  have hlf := hs.row.len.2
  have e1' : newB σ (.cells [.int .i64 (Int.ofNat 7), .int .i64 (Int.ofNat 0), .nils, l, .int .i64 (Int.ofNat 0), .nils]) = σ1 := e1
  have a1' : Atc σ1 σ.next [.int .i64 (Int.ofNat 7), .int .i64 (Int.ofNat 0), .nils, l, .int .i64 (Int.ofNat 0), .nils] := a1
  have g3' : D 161 [.ptr p 0, .int .i64 (Int.ofNat i), .agg [.int .i64 (Int.ofNat 7), .int .i64 (Int.ofNat 0), .nils, l, .int .i64 (Int.ofNat 0), .nils]] σ2 = some (.bool true, σ3) := g3
  have g5' : D 164 [.ptr p 0, .int .i64 (Int.ofNat i), .agg [.int .i64 (Int.ofNat 7), .int .i64 (Int.ofNat 0), .nils, l, .int .i64 (Int.ofNat 0), .nils]] σ4 = some (.bool true, σ5) := g5
  unfold vc at g2
  have d1 : decide (nf = nf) = true := decide_eq_true rfl
  have key : ∀ K, T114_0 [] D W K p 0 (Int.ofNat i) (Int.ofNat 7) (Int.ofNat 0) .nils l (Int.ofNat 0) .nils (Int.ofNat dp) σ = K p 0 (Int.ofNat i) (Int.ofNat dp) σ.next 0 (ty i).fields (Int.ofNat nf) (Int.ofNat 0) (ty i).kind (ty i).tags (ty i).has (ty i).hasLow (ty i).hasHigh (ty i).conMore (ty i).low (ty i).high (ty i).items (ty i).fields (ty i).root (ty i).more (ty i).of_ σ3 := by
    intro K
    unfold T114_0
    simp -implicitDefEqProofs only [↓nthK_zero, ↓nthK_succ, ↓subK_2, ↓subK_4, ↓subK_5, ↓subK_6, ↓subK_13, ↓subK_con, ↓rtInt_int, ↓rtBool_bool, ↓rtStr_str, ↓rtPtr_ptr, ↓rtAgg_agg, ↓rtTup_tup, ↓rtCons_cons, ↓rtNil_nil, ↓rtOne_nils, ↓rtOne_pt, ↓rtOne_sl, ↓slenK_nils, ↓slenK_sl, ↓callK_some_, ↓condK_ift, ↓condK_iff, ↓chk_if, ↓joinB_, cells_agg, cells_int, cells_ptr, allOne_cons, allOne_nil, one_int, one_bool, one_str, one_nils, one_sl, one_ptr, Bool.and_true, Nat.add_eq, Nat.zero_add, Bool.not_true, Bool.not_false, eqF_nat, ltF_nat, leF_nat, Nat.reduceEqDiff, Nat.reduceLT, Nat.reduceLeDiff, decide_false, decide_true, Bool.false_or, Bool.true_or, Bool.or_false, Bool.or_true, Bool.false_and, Bool.true_and, Bool.and_false, hl, ↓e1', ↓c1.types, ↓rd, Ty.c, (ty i).oneT, (ty i).oneI, (ty i).oneF, ↓ldK_is a1', ↓ldnK_is a1', ↓g2, ↓ldK_is a2, ↓ldnK_is a2, ↓hln, ↓hlf, d1, ↓g3']
  have tail : J114_1 [] D W N p 0 (Int.ofNat i) σ.next 0 σ4 = some (.bool true, σ5) := by
    show T114_1 [] D W p 0 (Int.ofNat i) σ.next 0 σ4 = _
    unfold T114_1
    simp -implicitDefEqProofs only [↓nthK_zero, ↓nthK_succ, ↓subK_2, ↓subK_4, ↓subK_5, ↓subK_6, ↓subK_13, ↓subK_con, ↓rtInt_int, ↓rtBool_bool, ↓rtStr_str, ↓rtPtr_ptr, ↓rtAgg_agg, ↓rtTup_tup, ↓rtCons_cons, ↓rtNil_nil, ↓rtOne_nils, ↓rtOne_pt, ↓rtOne_sl, ↓slenK_nils, ↓slenK_sl, ↓callK_some_, ↓condK_ift, ↓condK_iff, ↓chk_if, ↓joinB_, cells_agg, cells_int, cells_ptr, allOne_cons, allOne_nil, one_int, one_bool, one_str, one_nils, one_sl, one_ptr, Bool.and_true, Nat.add_eq, Nat.zero_add, Bool.not_true, Bool.not_false, ↓ldnK_is a4, ↓g5']
  exact ((key _).trans h4).trans tail
end
end
end Go.Proofs.YtpbdnlclihogfaaGreatDoor
set_option linter.all false
set_option maxRecDepth 100000
namespace Go.Proofs.YtpbdnlclihogfaaGreatDoor
open Go Go.Og
noncomputable section
section
variable {D : Den} {W : DrawFn} {N : Nat} {σ σ' : H} {p nT : Nat} {ty : Nat → Ty} {nm : BS} {nv rv tv : V} {rest : List V}
theorem fitsSeq_F {i dp : Nat} {l : V} {hl : l.one = true} {σ1 σ2 : H} (ht : Tidy σ) (hc : Ck σ p nT ty nm nv rv tv rest) (hi : i < nT) (hd : dp ≤ 17) (hk : (ty i).kind = Int.ofNat 7)
    (e1 : newB σ (.cells (Vc.seq l hl).c) = σ1) (g : D 114 [.ptr p 0, .int .i64 (Int.ofNat i), .agg (Vc.seq l hl).c, .int .i64 (Int.ofNat dp)] σ1 = some (.bool true, σ2)) :
    F63 [] D W N [.ptr p 0, .int .i64 (Int.ofNat i), .agg (Vc.seq l hl).c, .int .i64 (Int.ofNat dp)] σ = some (.bool true, σ2) := by
  obtain ⟨σ1', e1', f1, a1, n1⟩ := mk_new ht (Vc.seq l hl).c
  obtain rfl : σ1' = σ1 := e1'.symm.trans e1
  have c1 := hc.fr f1 ht
  have rd : ∀ κ, iaddrSK 13 tv (Int.ofNat i) (fun b o => ldnK [] σ1' b o 13 κ) = κ (ty i).c := fun κ => c1.row.all hi κ
  have hln := c1.row.len.2
  unfold Vc.c Vc.seq at e1 a1 g ⊢
  have d1 : decide (nT ≤ i) = false := decide_eq_false (by omega)
  have d2 : decide (17 < dp) = false := decide_eq_false (by omega)
  show T63_0 [] D W (T63_2 [] D W (T63_3 [] D W (J63_1 [] D W N))) p 0 (Int.ofNat i) (Int.ofNat 7) (Int.ofNat 0) .nils l (Int.ofNat 0) .nils (Int.ofNat dp) σ = _
  unfold T63_0 T63_2 T63_3
  simp -implicitDefEqProofs only [↓nthK_zero, ↓nthK_succ, ↓subK_2, ↓subK_4, ↓subK_5, ↓subK_6, ↓subK_13, ↓subK_con, ↓rtInt_int, ↓rtBool_bool, ↓rtStr_str, ↓rtPtr_ptr, ↓rtAgg_agg, ↓rtTup_tup, ↓rtCons_cons, ↓rtNil_nil, ↓rtOne_nils, ↓rtOne_pt, ↓rtOne_sl, ↓slenK_nils, ↓slenK_sl, ↓callK_some_, ↓condK_ift, ↓condK_iff, ↓chk_if, ↓joinB_, cells_agg, cells_int, cells_ptr, allOne_cons, allOne_nil, one_int, one_bool, one_str, one_nils, one_sl, one_ptr, Bool.and_true, Nat.add_eq, Nat.zero_add, Bool.not_true, Bool.not_false, eqF_nat, ltF_nat, leF_nat, Nat.reduceEqDiff, Nat.reduceLT, Nat.reduceLeDiff, decide_false, decide_true, Bool.false_or, Bool.true_or, Bool.or_false, Bool.or_true, Bool.false_and, Bool.true_and, Bool.and_false, Nat.not_lt_zero, hl, ↓e1, ↓c1.types, ↓hln, d1, d2, ↓rd, Ty.c, hk, (ty i).oneT, (ty i).oneI, (ty i).oneF, ↓ldK_is a1, ↓ldnK_is a1, ↓g]
theorem fitsList_F {i dp : Nat} {l : V} {hl : l.one = true} {σ1 σ2 : H} (ht : Tidy σ) (hc : Ck σ p nT ty nm nv rv tv rest) (hi : i < nT) (hd : dp ≤ 17) (hk : (ty i).kind = Int.ofNat 10)
    (e1 : newB σ (.cells (Vc.lst l hl).c) = σ1) (g : D 113 [.ptr p 0, .agg (ty i).c, .agg (Vc.lst l hl).c, .int .i64 (Int.ofNat dp)] σ1 = some (.bool true, σ2)) :
    F63 [] D W N [.ptr p 0, .int .i64 (Int.ofNat i), .agg (Vc.lst l hl).c, .int .i64 (Int.ofNat dp)] σ = some (.bool true, σ2) := by
  obtain ⟨σ1', e1', f1, a1, n1⟩ := mk_new ht (Vc.lst l hl).c
  obtain rfl : σ1' = σ1 := e1'.symm.trans e1
  have c1 := hc.fr f1 ht
  have rd : ∀ κ, iaddrSK 13 tv (Int.ofNat i) (fun b o => ldnK [] σ1' b o 13 κ) = κ (ty i).c := fun κ => c1.row.all hi κ
  have hln := c1.row.len.2
  unfold Ty.c at g
  rw [hk] at g
  unfold Vc.c Vc.lst at e1 a1 g ⊢
  have d1 : decide (nT ≤ i) = false := decide_eq_false (by omega)
  have d2 : decide (17 < dp) = false := decide_eq_false (by omega)
  show T63_0 [] D W (T63_2 [] D W (T63_3 [] D W (J63_1 [] D W N))) p 0 (Int.ofNat i) (Int.ofNat 10) (Int.ofNat 0) .nils l (Int.ofNat 0) .nils (Int.ofNat dp) σ = _
  unfold T63_0 T63_2 T63_3
  simp -implicitDefEqProofs only [↓nthK_zero, ↓nthK_succ, ↓subK_2, ↓subK_4, ↓subK_5, ↓subK_6, ↓subK_13, ↓subK_con, ↓rtInt_int, ↓rtBool_bool, ↓rtStr_str, ↓rtPtr_ptr, ↓rtAgg_agg, ↓rtTup_tup, ↓rtCons_cons, ↓rtNil_nil, ↓rtOne_nils, ↓rtOne_pt, ↓rtOne_sl, ↓slenK_nils, ↓slenK_sl, ↓callK_some_, ↓condK_ift, ↓condK_iff, ↓chk_if, ↓joinB_, cells_agg, cells_int, cells_ptr, allOne_cons, allOne_nil, one_int, one_bool, one_str, one_nils, one_sl, one_ptr, Bool.and_true, Nat.add_eq, Nat.zero_add, Bool.not_true, Bool.not_false, eqF_nat, ltF_nat, leF_nat, Nat.reduceEqDiff, Nat.reduceLT, Nat.reduceLeDiff, decide_false, decide_true, Bool.false_or, Bool.true_or, Bool.or_false, Bool.or_true, Bool.false_and, Bool.true_and, Bool.and_false, Nat.not_lt_zero, hl, ↓e1, ↓c1.types, ↓hln, d1, d2, ↓rd, Ty.c, hk, (ty i).oneT, (ty i).oneI, (ty i).oneF, ↓ldK_is a1, ↓ldnK_is a1, ↓g]
/-- How many values, of one with these below it, each of which counts one. -/
theorem count_F {v : Vc} {n : Nat} {g : Nat → Vc} (hN : n < N) (hn : n ≤ 10000) (ht : Tidy σ) (hr : Row σ 6 n v.l fun k => (g k).c)
    (hq : ∀ (σ1 : H) (k : Nat), k < n → Fr Nowhere σ σ1 → ∃ σ2, D 64 [.agg (g k).c] σ1 = some (.int .i64 (Int.ofNat 1), σ2) ∧ Fr Nowhere σ1 σ2) :
    ∃ σ', F64 [] D W N [.agg v.c] σ = some (.int .i64 (Int.ofNat (1 + n)), σ') ∧ Fr Nowhere σ σ' := by
  have loop : ∀ (m n' i : Nat) (σ1 : H), i + m = n → m < n' → Fr Nowhere σ σ1 → ∃ σ2, L64_2 [] D W N n' (Int.ofNat (1 + i)) v.l (Int.ofNat n) (Int.ofNat i) σ1 = some (.int .i64 (Int.ofNat (1 + n)), σ2) ∧ Fr Nowhere σ σ2 := by
    intro m
    induction m with
    | zero =>
      intro n' i σ1 hi hn' f1
      obtain ⟨n', rfl⟩ : ∃ k, n' = k + 1 := ⟨n' - 1, by omega⟩
      refine ⟨σ1, ?_, f1⟩
      show T64_2 [] D W _ _ (Int.ofNat (1 + i)) v.l (Int.ofNat n) (Int.ofNat i) σ1 = _
      unfold T64_2
      rw [ltF_nat, decide_eq_false (by omega), condK_false]
      obtain rfl : i = n := by omega
      rfl
    | succ m ih =>
      intro n' i σ1 hi hn' f1
      obtain ⟨n', rfl⟩ : ∃ k, n' = k + 1 := ⟨n' - 1, by omega⟩
      have hlt : i < n := by omega
      have rd : ∀ κ, iaddrSK 6 v.l (Int.ofNat i) (fun b o => ldnK [] σ1 b o 6 κ) = κ (g i).c := fun κ => (hr.fr0 f1 ht).all hlt κ
      obtain ⟨σ2, g2, f2⟩ := hq σ1 i hlt f1
      obtain ⟨σ3, g3, f3⟩ := ih n' (i + 1) σ2 (by omega) (by omega) (f1.trans f2 (fun _ _ h => h))
      refine ⟨σ3, ?_, f3⟩
      unfold Vc.c at rd g2
      have d1 : decide (i < n) = true := decide_eq_true hlt
      have key : ∀ K1 K2, T64_2 [] D W K1 K2 (Int.ofNat (1 + i)) v.l (Int.ofNat n) (Int.ofNat i) σ1 = K2 (Int.ofNat (1 + (i + 1))) v.l (Int.ofNat n) (Int.ofNat (i + 1)) σ2 := by
        intro K1 K2
        unfold T64_2
        simp -implicitDefEqProofs only [↓nthK_zero, ↓nthK_succ, ↓subK_2, ↓subK_4, ↓subK_5, ↓subK_6, ↓subK_13, ↓subK_con, ↓rtInt_int, ↓rtBool_bool, ↓rtStr_str, ↓rtPtr_ptr, ↓rtAgg_agg, ↓rtTup_tup, ↓rtCons_cons, ↓rtNil_nil, ↓rtOne_nils, ↓rtOne_pt, ↓rtOne_sl, ↓slenK_nils, ↓slenK_sl, ↓callK_some_, ↓condK_ift, ↓condK_iff, ↓chk_if, ↓joinB_, cells_agg, cells_int, cells_ptr, allOne_cons, allOne_nil, one_int, one_bool, one_str, one_nils, one_sl, one_ptr, Bool.and_true, Nat.add_eq, Nat.zero_add, Bool.not_true, Bool.not_false, eqF_nat, ltF_nat, leF_nat, Nat.reduceEqDiff, Nat.reduceLT, Nat.reduceLeDiff, decide_false, decide_true, Bool.false_or, Bool.true_or, Bool.or_false, Bool.or_true, Bool.false_and, Bool.true_and, Bool.and_false, d1, ↓rd, (g i).oneB, (g i).oneL, (g i).oneM, ↓g2, addF_nat (show 1 + i + 1 ≤ 9223372036854775807 by omega), addF_nat (show i + 1 ≤ 9223372036854775807 by omega), Nat.add_assoc]
      exact (key _ _).trans g3
  obtain ⟨σ1, e1, f1, a1, n1⟩ := mk_new ht v.c
  obtain ⟨σ2, h1, h2⟩ := loop n N 0 σ1 (by omega) hN f1
  refine ⟨σ2, ?_, h2⟩
  unfold Vc.c at e1 a1
  have hln := hr.len.2
  have key : ∀ K, T64_0 [] D W K v.k v.n v.b v.l v.r v.m σ = K (Int.ofNat 1) v.l (Int.ofNat n) (Int.ofNat 0) σ1 := by
    intro K
    unfold T64_0
    simp -implicitDefEqProofs only [↓nthK_zero, ↓nthK_succ, ↓subK_2, ↓subK_4, ↓subK_5, ↓subK_6, ↓subK_13, ↓subK_con, ↓rtInt_int, ↓rtBool_bool, ↓rtStr_str, ↓rtPtr_ptr, ↓rtAgg_agg, ↓rtTup_tup, ↓rtCons_cons, ↓rtNil_nil, ↓rtOne_nils, ↓rtOne_pt, ↓rtOne_sl, ↓slenK_nils, ↓slenK_sl, ↓callK_some_, ↓condK_ift, ↓condK_iff, ↓chk_if, ↓joinB_, cells_agg, cells_int, cells_ptr, allOne_cons, allOne_nil, one_int, one_bool, one_str, one_nils, one_sl, one_ptr, Bool.and_true, Nat.add_eq, Nat.zero_add, Bool.not_true, Bool.not_false, eqF_nat, ltF_nat, leF_nat, Nat.reduceEqDiff, Nat.reduceLT, Nat.reduceLeDiff, decide_false, decide_true, Bool.false_or, Bool.true_or, Bool.or_false, Bool.or_true, Bool.false_and, Bool.true_and, Bool.and_false, v.oneB, v.oneL, v.oneM, ↓e1, ↓hln, ↓ldK_is a1]
  exact (key _).trans h1
/-- By which rules: none of them is another one. -/
theorem rules_F {D' : Den} (hC : SpCf (D 65) D') {v : Vc} {n : Nat} {g : Nat → Vc} {ru : Int} (hn : n ≤ 10000) (hv : v.r = Int.ofNat 0) (ht : Tidy σ) (hr : Row σ 6 n v.l fun k => (g k).c)
    (hq : ∀ (σ1 : H) (q k : Nat), k < n → Fr Nowhere σ σ1 → Atc σ1 q [.int .i64 ru] → ∃ σ2, D' 66 ([] ++ [.agg (g k).c] ++ [.ptr q 0]) σ1 = some (.bool false, σ2) ∧ Fr Nowhere σ1 σ2) :
    ∃ σ', F39 [] D W N [.agg v.c, .int .i64 ru] σ = some (.bool true, σ') ∧ Fr Nowhere σ σ' := by
  obtain ⟨σ1, e1, f1, a1, n1⟩ := mk_new ht v.c
  obtain ⟨σ2, e2, f2, a2, n2⟩ := mk_new f1.tidy [.int .i64 ru]
  have f02 := f1.trans f2 (fun _ _ h => h)
  have a12 := f2.at_ a1 f1.tidy (fun h => h)
  obtain ⟨σ3, g3, f3⟩ := hC (σ := σ2) (caps := [.ptr σ1.next 0]) (f := 66) (q := fun _ => false) f02.tidy (hr.fr0 f02 ht) (fun σ9 k hk f9 => hq σ9 σ1.next k hk (f02.trans f9 (fun _ _ h => h)) (f9.at_ a2 f02.tidy (fun h => h))) hn
  rw [any_none (fun _ _ _ => rfl)] at g3
  refine ⟨σ3, ?_, f02.trans f3 (fun _ _ h => h)⟩
  unfold Vc.c at e1 a12
  rw [hv] at e1 a12
  show T39_0 [] D W v.k v.n v.b v.l v.r v.m ru σ = _
  rw [hv]
  unfold T39_0
  simp -implicitDefEqProofs only [↓nthK_zero, ↓nthK_succ, ↓subK_2, ↓subK_4, ↓subK_5, ↓subK_6, ↓subK_13, ↓subK_con, ↓rtInt_int, ↓rtBool_bool, ↓rtStr_str, ↓rtPtr_ptr, ↓rtAgg_agg, ↓rtTup_tup, ↓rtCons_cons, ↓rtNil_nil, ↓rtOne_nils, ↓rtOne_pt, ↓rtOne_sl, ↓slenK_nils, ↓slenK_sl, ↓callK_some_, ↓condK_ift, ↓condK_iff, ↓chk_if, ↓joinB_, cells_agg, cells_int, cells_ptr, allOne_cons, allOne_nil, one_int, one_bool, one_str, one_nils, one_sl, one_ptr, Bool.and_true, Nat.add_eq, Nat.zero_add, Bool.not_true, Bool.not_false, eqF_nat, ltF_nat, leF_nat, Nat.reduceEqDiff, Nat.reduceLT, Nat.reduceLeDiff, decide_false, decide_true, Bool.false_or, Bool.true_or, Bool.or_false, Bool.or_true, Bool.false_and, Bool.true_and, Bool.and_false, v.oneB, v.oneL, v.oneM, ↓e1, ↓e2, ↓ldK_is a12, ↓ldK_is a2, ↓g3]
theorem rules1_F {v : Vc} {ru : Int} {q : Nat} (hq : ∀ σ1 : H, Tidy σ1 → Fr Nowhere σ σ1 → ∃ σ2, D 39 [.agg v.c, .int .i64 ru] σ1 = some (.bool true, σ2) ∧ Fr Nowhere σ1 σ2) (ht : Tidy σ) (ha : Atc σ q [.int .i64 ru]) :
    ∃ σ', F66 [] D W N ([] ++ [.agg v.c] ++ [.ptr q 0]) σ = some (.bool false, σ') ∧ Fr Nowhere σ σ' := by
  obtain ⟨σ1, e1, f1, a1, n1⟩ := mk_new ht v.c
  obtain ⟨σ2, g2, f2⟩ := hq σ1 f1.tidy f1
  have a2 := f1.at_ ha ht (fun h => h)
  refine ⟨σ2, ?_, f1.trans f2 (fun _ _ h => h)⟩
  unfold Vc.c at e1 a1 g2
  show T66_0 [] D W v.k v.n v.b v.l v.r v.m (.ptr q 0) σ = _
  unfold T66_0
  simp -implicitDefEqProofs only [↓nthK_zero, ↓nthK_succ, ↓subK_2, ↓subK_4, ↓subK_5, ↓subK_6, ↓subK_13, ↓subK_con, ↓rtInt_int, ↓rtBool_bool, ↓rtStr_str, ↓rtPtr_ptr, ↓rtAgg_agg, ↓rtTup_tup, ↓rtCons_cons, ↓rtNil_nil, ↓rtOne_nils, ↓rtOne_pt, ↓rtOne_sl, ↓slenK_nils, ↓slenK_sl, ↓callK_some_, ↓condK_ift, ↓condK_iff, ↓chk_if, ↓joinB_, cells_agg, cells_int, cells_ptr, allOne_cons, allOne_nil, one_int, one_bool, one_str, one_nils, one_sl, one_ptr, Bool.and_true, Nat.add_eq, Nat.zero_add, Bool.not_true, Bool.not_false, eqF_nat, ltF_nat, leF_nat, Nat.reduceEqDiff, Nat.reduceLT, Nat.reduceLeDiff, decide_false, decide_true, Bool.false_or, Bool.true_or, Bool.or_false, Bool.or_true, Bool.false_and, Bool.true_and, Bool.and_false, v.oneB, v.oneL, v.oneM, ↓e1, ↓ldnK_is a1, ↓ldK_is a2, ↓g2]
/-- All of it fits. -/
theorem Fits_F {i n : Nat} {v : Vc} (hn : n ≤ 5000) (ht : Tidy σ) (hr : Row σ 13 nT tv fun i => (ty i).c) (h1 : nv.one = true) (h2 : rv.one = true) (h3 : tv.one = true)
    (hF : ∀ (σ1 : H) (p : Nat), Tidy σ1 → Fr Nowhere σ σ1 → Ck σ1 p nT ty nm nv rv tv [.bool false] → ∃ σ2, D 63 [.ptr p 0, .int .i64 (Int.ofNat i), .agg v.c, .int .i64 (Int.ofNat 1)] σ1 = some (.bool true, σ2) ∧ Fr Nowhere σ1 σ2)
    (hC : ∀ σ1 : H, Tidy σ1 → Fr Nowhere σ σ1 → ∃ σ2, D 64 [.agg v.c] σ1 = some (.int .i64 (Int.ofNat n), σ2) ∧ Fr Nowhere σ1 σ2) :
    ∃ σ', F38 [] D W N [.agg [.str nm, nv, rv, tv], .int .i64 (Int.ofNat i), .agg v.c] σ = some (.bool true, σ') ∧ Fr Nowhere σ σ' := by
  obtain ⟨σ1, e1, f1, a1, n1⟩ := mk_new ht [.str nm, nv, rv, tv]
  obtain ⟨σ2, e2, f2, a2, n2⟩ := mk_new f1.tidy v.c
  obtain ⟨σ3, e3, f3, a3, n3⟩ := mk_new f2.tidy [.str nm, nv, rv, tv, .bool false]
  have f02 := f1.trans f2 (fun _ _ h => h)
  have f03 := f02.trans f3 (fun _ _ h => h)
  have r3 := hr.fr0 f03 ht
  have c3 : Ck σ3 σ2.next nT ty nm nv rv tv [.bool false] := ⟨a3, h1, h2, h3, r3, fun b hb e => by
    subst e
    have lo := f02.le
    rcases hr.is with ⟨_, rfl⟩ | ⟨b, c, L, rfl, ha, _⟩
    · exact hb
    · have := ha.lt ht
      have hb : σ2.next = b := hb
      omega⟩
  obtain ⟨σ4, g4, f4⟩ := hF σ3 σ2.next f3.tidy f03 c3
  have f04 := f03.trans f4 (fun _ _ h => h)
  obtain ⟨σ5, g5, f5⟩ := hC σ4 f4.tidy f04
  have a12 := f2.at_ a1 f1.tidy (fun h => h)
  have a23 := f3.at_ a2 f2.tidy (fun h => h)
  have a24 := f4.at_ a23 f3.tidy (fun h => h)
  have d1 : decide (n ≤ 5000) = true := decide_eq_true hn
  refine ⟨σ5, ?_, f04.trans f5 (fun _ _ h => h)⟩
  unfold Vc.c at e2 a2 a23 a24 g4 g5
  show T38_0 [] D W nm nv rv tv (Int.ofNat i) v.k v.n v.b v.l v.r v.m σ = _
  unfold T38_0
  simp -implicitDefEqProofs only [↓nthK_zero, ↓nthK_succ, ↓subK_2, ↓subK_4, ↓subK_5, ↓subK_6, ↓subK_13, ↓subK_con, ↓rtInt_int, ↓rtBool_bool, ↓rtStr_str, ↓rtPtr_ptr, ↓rtAgg_agg, ↓rtTup_tup, ↓rtCons_cons, ↓rtNil_nil, ↓rtOne_nils, ↓rtOne_pt, ↓rtOne_sl, ↓slenK_nils, ↓slenK_sl, ↓callK_some_, ↓condK_ift, ↓condK_iff, ↓chk_if, ↓joinB_, cells_agg, cells_int, cells_ptr, allOne_cons, allOne_nil, one_int, one_bool, one_str, one_nils, one_sl, one_ptr, Bool.and_true, Nat.add_eq, Nat.zero_add, Bool.not_true, Bool.not_false, eqF_nat, ltF_nat, leF_nat, Nat.reduceEqDiff, Nat.reduceLT, Nat.reduceLeDiff, decide_false, decide_true, Bool.false_or, Bool.true_or, Bool.or_false, Bool.or_true, Bool.false_and, Bool.true_and, Bool.and_false, h1, h2, h3, v.oneB, v.oneL, v.oneM, ↓e1, ↓e2, ↓e3, ↓ldnK_is a12, ↓ldnK_is a23, ↓ldnK_is a24, ↓g4, ↓g5, d1]
end
end
end Go.Proofs.YtpbdnlclihogfaaGreatDoor
set_option linter.all false
set_option maxRecDepth 100000
namespace Go.Proofs.YtpbdnlclihogfaaGreatDoor
open Go Go.Og
noncomputable section
theorem Row.zero {E : List (Nat × Blk)} {σ : H} {esz n : Nat} {v : V} {g : Nat → List V} (h : Row σ esz n v g) {k : Nat} (hk : k < n) {u : V} (hj : (g k)[0]? = some u) (κ : V → Ans) :
    iaddrSK esz v (Int.ofNat k) (fun b o => ldK E σ b o κ) = κ u := h.one hk hj κ
def catN (pl : Nat → List Int) : Nat → Nat → List Int
  | 0, _ => []
  | m + 1, i => pl i ++ catN pl m (i + 1)
def SpJoin (F : List V → H → Ans) : Prop := ∀ {σ : H} {n : Nat} {v : V} {pv : Nat → V} {pl : Nat → List Int}, Tidy σ → Row σ 1 n v (fun k => [pv k]) → (∀ k, k < n → By σ (pv k) (pl k)) → (catN pl n 0).length ≤ 1000000 → n ≤ 10000 →
  ∃ u σ', F [v] σ = some (u, σ') ∧ Nb σ σ' u (catN pl n 0) ∧ Fr Nowhere σ σ'
section
variable {D : Den} {W : DrawFn} {N : Nat} {σ σ' : H}
theorem join_F (hN : 10000 < N) : SpJoin (F116 [] D W N) := by
  intro σ n v pv pl ht hr hp hs hn
  have loop : ∀ (m n' i : Nat) (A : List Int) (u : V) (σ1 : H), i + m = n → m < n' → Fr Nowhere σ σ1 → Nb σ σ1 u A → A.length + (catN pl m i).length ≤ 1000000 →
      ∃ u' σ', L116_2 [] D W N n' u v (Int.ofNat n) (Int.ofNat i) σ1 = some (u', σ') ∧ Nb σ σ' u' (A ++ catN pl m i) ∧ Fr Nowhere σ σ' := by
    intro m
    induction m with
    | zero =>
      intro n' i A u σ1 hi hn' f1 hu hl
      obtain ⟨n', rfl⟩ : ∃ k, n' = k + 1 := ⟨n' - 1, by omega⟩
      refine ⟨u, σ1, ?_, by rw [show catN pl 0 i = [] from rfl, List.append_nil]; exact hu, f1⟩
      show T116_2 [] D W _ _ u v (Int.ofNat n) (Int.ofNat i) σ1 = _
      unfold T116_2
      rw [ltF_nat, decide_eq_false (by omega), condK_false]; rfl
    | succ m ih =>
      intro n' i A u σ1 hi hn' f1 hu hl
      obtain ⟨n', rfl⟩ : ∃ k, n' = k + 1 := ⟨n' - 1, by omega⟩
      have hlt : i < n := by omega
      simp only [catN, List.length_append] at hl
      obtain ⟨u2, σ2, g2, h2, f2, _⟩ := app_by (E := []) hu f1 ((hp i hlt).fr f1 ht) (by omega)
      obtain ⟨u3, σ3, g3, h3, f3⟩ := ih n' (i + 1) (A ++ pl i) u2 σ2 (by omega) (by omega) f2 h2 (by rw [List.length_append]; omega)
      refine ⟨u3, σ3, ?_, by rw [show catN pl (m + 1) i = pl i ++ catN pl m (i + 1) from rfl, ← List.append_assoc]; exact h3, f3⟩
      have rd : ∀ κ, iaddrSK 1 v (Int.ofNat i) (fun b o => ldK [] σ1 b o κ) = κ (pv i) := fun κ => (hr.fr0 f1 ht).zero hlt rfl κ
      have d1 : decide (i < n) = true := decide_eq_true hlt
      have key : ∀ K1 K2, T116_2 [] D W K1 K2 u v (Int.ofNat n) (Int.ofNat i) σ1 = K2 u2 v (Int.ofNat n) (Int.ofNat (i + 1)) σ2 := by
        intro K1 K2
        unfold T116_2
        simp -implicitDefEqProofs only [↓nthK_zero, ↓nthK_succ, ↓subK_2, ↓subK_4, ↓subK_5, ↓subK_6, ↓subK_13, ↓subK_con, ↓rtInt_int, ↓rtBool_bool, ↓rtStr_str, ↓rtPtr_ptr, ↓rtAgg_agg, ↓rtTup_tup, ↓rtCons_cons, ↓rtNil_nil, ↓rtOne_nils, ↓rtOne_pt, ↓rtOne_sl, ↓slenK_nils, ↓slenK_sl, ↓callK_some_, ↓condK_ift, ↓condK_iff, ↓chk_if, ↓joinB_, cells_agg, cells_int, cells_ptr, allOne_cons, allOne_nil, one_int, one_bool, one_str, one_nils, one_sl, one_ptr, Bool.and_true, Nat.add_eq, Nat.zero_add, Bool.not_true, Bool.not_false, eqF_nat, ltF_nat, leF_nat, Nat.reduceEqDiff, Nat.reduceLT, Nat.reduceLeDiff, decide_false, decide_true, Bool.false_or, Bool.true_or, Bool.or_false, Bool.or_true, Bool.false_and, Bool.true_and, Bool.and_false, d1, ↓rd, ↓g2, ↓rtOne_of h2.1.one, addF_nat (show i + 1 ≤ 9223372036854775807 by omega)]
      exact (key _ _).trans g3
  obtain ⟨u, σ', h1, h2, h3⟩ := loop n N 0 [] .nils σ (by omega) (by omega) (Fr.refl ht) (Nb.nil σ σ) (by simpa using hs)
  refine ⟨u, σ', ?_, h2, h3⟩
  show T116_0 [] D W (L116_2 [] D W N N) v σ = _
  unfold T116_0
  rw [hr.len.2]
  exact h1
/-- The program's octets of a number. -/
theorem octets_F {v : Int} {n : Nat} (hn : n ≤ 8) (hN : 8 < N) (ht : Tidy σ) :
    ∃ u σ', F118 [] D W N [.int .u64 (wrapF .u64 v), .int .i64 (Int.ofNat n)] σ = some (u, σ') ∧ Nb σ σ' u (octBE v n) ∧ Fr Nowhere σ σ' := by
  obtain ⟨σ1, e1, f1, a1, n1⟩ := mk_new ht (List.replicate n [V.int .u8 (Int.ofNat 0)]).flatten
  have hz : (List.replicate n [V.int .u8 (Int.ofNat 0)]).flatten = u8s (List.replicate n (Int.ofNat 0)) := by
    simp [u8s, List.flatten_replicate_singleton]
  have loop : ∀ (m n' i : Nat) (σ1 : H), i + m = n → m < n' → Fr Nowhere σ σ1 → σ.next < σ1.next → Atc σ1 σ.next (u8s ((octBE v n).take i ++ List.replicate m (Int.ofNat 0))) →
      ∃ σ', L118_2 [] D W N n' (wrapF .u64 v) (Int.ofNat n) (.sl σ.next 0 n (.ex n)) (Int.ofNat n) (Int.ofNat i) σ1 = some (.sl σ.next 0 n (.ex n), σ') ∧ Atc σ' σ.next (u8s (octBE v n)) ∧ Fr Nowhere σ σ' := by
    intro m
    induction m with
    | zero =>
      intro n' i σ1 hi hn' f1 hx ha
      obtain ⟨n', rfl⟩ : ∃ k, n' = k + 1 := ⟨n' - 1, by omega⟩
      refine ⟨σ1, ?_, ?_, f1⟩
      · show T118_2 [] D W _ _ (wrapF .u64 v) (Int.ofNat n) (.sl σ.next 0 n (.ex n)) (Int.ofNat n) (Int.ofNat i) σ1 = _
        unfold T118_2
        rw [ltF_nat, decide_eq_false (by omega), condK_false]; rfl
      · rw [List.take_of_length_le (by rw [octBE_length]; omega)] at ha
        simpa using ha
    | succ m ih =>
      intro n' i σ1 hi hn' f1 hx ha
      obtain ⟨n', rfl⟩ : ∃ k, n' = k + 1 := ⟨n' - 1, by omega⟩
      have hlt : i < n := by omega
      obtain ⟨σ2, e2, f2, a2⟩ := mk_set f1.tidy ha (spl (u8s ((octBE v n).take i ++ List.replicate (m + 1) (Int.ofNat 0))) i [.int .u8 (byteAt v (n - 1 - i))])
      have hsp : spl (u8s ((octBE v n).take i ++ List.replicate (m + 1) (Int.ofNat 0))) i [.int .u8 (byteAt v (n - 1 - i))] = u8s ((octBE v n).take (i + 1) ++ List.replicate m (Int.ofNat 0)) := by
        have hl : ((octBE v n).take i).length = i := by rw [List.length_take, octBE_length]; omega
        have := spl_at (u8s ((octBE v n).take i)) (.int .u8 (Int.ofNat 0)) (u8s (List.replicate m (Int.ofNat 0))) (.int .u8 (byteAt v (n - 1 - i)))
        rw [u8s_length, hl] at this
        rw [u8s_app, List.replicate_succ, show u8s (Int.ofNat 0 :: List.replicate m (Int.ofNat 0)) = .int .u8 (Int.ofNat 0) :: u8s (List.replicate m (Int.ofNat 0)) from rfl, this]
        rw [List.take_add_one, octBE_get v hlt]
        simp [u8s]
      rw [hsp] at e2 a2
      have f02 := f1.trans f2 (fun b hb h => by have h : b = σ.next := h; omega)
      obtain ⟨σ3, g3, h3, f3⟩ := ih n' (i + 1) σ2 (by omega) (by omega) f02 (by have := f2.le; omega) a2
      refine ⟨σ3, ?_, h3, f3⟩
      have d1 : decide (i < n) = true := decide_eq_true hlt
      have en : mulF .i64 (Int.ofNat 8) (subF .i64 (subF .i64 (Int.ofNat n) (Int.ofNat 1)) (Int.ofNat i)) = Int.ofNat (8 * (n - 1 - i)) := by
        rw [subF_nat (by omega) (by omega), subF_nat (by omega) (by omega)]
        exact wrapF_nat (k := .i64) (m := 8 * (n - 1 - i)) (show 8 * (n - 1 - i) ≤ 9223372036854775807 by omega)
      have st : ∀ κ : H → Ans, stK 1 σ.next i (.int .u8 (byteAt v (n - 1 - i))) σ1 κ = κ σ2 := fun κ => by
        rw [stK_at ha (by
          simp only [cells_int, List.length_cons, List.length_nil, u8s_length, List.length_append, List.length_take, octBE_length, List.length_replicate, Bool.and_eq_true]
          refine ⟨⟨rfl, ?_⟩, rfl⟩
          rw [Nat.ble_eq]
          show i + 1 ≤ _
          omega)]
        rw [cells_int, hsp, e2]
      have ia : ∀ κ : Nat → Nat → Ans, iaddrSK 1 (.sl σ.next 0 n (.ex n)) (Int.ofNat i) κ = κ σ.next i := fun κ => by
        rw [iaddrSK_lt hlt]
        show κ σ.next (0 + i * 1) = _
        rw [Nat.zero_add, Nat.mul_one]
      have key : ∀ K1 K2, T118_2 [] D W K1 K2 (wrapF .u64 v) (Int.ofNat n) (.sl σ.next 0 n (.ex n)) (Int.ofNat n) (Int.ofNat i) σ1 = K2 (wrapF .u64 v) (Int.ofNat n) (.sl σ.next 0 n (.ex n)) (Int.ofNat n) (Int.ofNat (i + 1)) σ2 := by
        intro K1 K2
        unfold T118_2
        rw [ltF_nat, d1, condK_true, en, nnK_nat, ia, byte_u64 v (by omega), st, addF_nat (by omega)]
      exact (key _ _).trans g3
  rw [hz] at a1
  obtain ⟨σ', g, a, f⟩ := loop n N 0 σ1 (by omega) (by omega) f1 (by omega) (by rw [List.take_zero, List.nil_append]; exact a1)
  refine ⟨_, σ', ?_, ⟨.inr ⟨σ.next, by rw [octBE_length], a, by rw [u8s_length]; simp⟩, fun b hb => by cases hb; exact Nat.le_refl _⟩, f⟩
  show T118_0 [] D W (L118_2 [] D W N N) (wrapF .u64 v) (Int.ofNat n) σ = _
  unfold T118_0
  rw [nnK_nat, nnK_nat, chk_true (by simp only [Bool.and_eq_true, Nat.ble_eq]; refine ⟨⟨Nat.le_refl _, ?_⟩, ?_⟩ <;> omega)]
  show L118_2 [] D W N N _ _ _ _ _ (newB σ (.cells _)) = _
  rw [e1]
  exact g
end
end
end Go.Proofs.YtpbdnlclihogfaaGreatDoor
set_option linter.all false
set_option maxRecDepth 100000
namespace Go.Proofs.YtpbdnlclihogfaaGreatDoor
open Go Go.Og
noncomputable section
/-- What makes new octets out of these arguments. -/
def Makes (F : List V → H → Ans) (args : List V) (σ : H) (l : List Int) : Prop := ∃ u σ', F args σ = some (u, σ') ∧ Nb σ σ' u l ∧ Fr Nowhere σ σ'
def sOct (v : Int) : List Int := octBE v (lenS v)
theorem sOct_length (v : Int) : 1 ≤ (sOct v).length ∧ (sOct v).length ≤ 8 := by unfold sOct; rw [octBE_length]; exact lenS_range v
section
variable {D : Den} {W : DrawFn} {N : Nat} {σ σ' : H}
theorem eq_of (a b : Int) : eqF a b = decide (a = b) := by rw [eqF_eq]; rw [Bool.eq_iff_iff]; simp
theorem signed_F {v : Int} (hv : In64i v) (hO : ∀ (σ : H) (n : Nat), Tidy σ → n ≤ 8 → Makes (D 118) [.int .u64 (wrapF .u64 v), .int .i64 (Int.ofNat n)] σ (octBE v n)) (hN : 8 < N) (ht : Tidy σ) : Makes (F68 [] D W N) [.int .i64 v] σ (sOct v) := by
  have hr := lenS_range v
  have loop : ∀ (m n' n : Nat), n + m = lenS v → 1 ≤ n → m < n' → L68_2 [] D W N n' v (Int.ofNat n) σ = J68_1 [] D W N v (Int.ofNat (lenS v)) σ := by
    intro m
    induction m with
    | zero =>
      intro n' n hn h1 hn'
      obtain ⟨n', rfl⟩ : ∃ k, n' = k + 1 := ⟨n' - 1, by omega⟩
      have hn : n = lenS v := by omega
      subst hn
      have en : subF .i64 (mulF .i64 (Int.ofNat 8) (Int.ofNat (lenS v))) (Int.ofNat 1) = Int.ofNat (8 * lenS v - 1) := by
        rw [show mulF .i64 (Int.ofNat 8) (Int.ofNat (lenS v)) = Int.ofNat (8 * lenS v) from wrapF_nat (k := .i64) (m := 8 * lenS v) (show _ ≤ 9223372036854775807 by omega), subF_nat (by omega) (by omega)]
      have hw := lenS_enough hv
      unfold enough at hw
      show T68_2 [] D W _ _ v (Int.ofNat (lenS v)) σ = _
      unfold T68_2
      rw [en]
      simp -implicitDefEqProofs only [nnK_nat, join_and, shr_i64 v (show 8 * lenS v - 1 ≤ 64 by omega), ltF_nat, eq_of, show Int.ofNat 0 = (0 : Int) from rfl, show Int.negSucc 0 = (-1 : Int) from rfl]
      rw [condK_iff]
      rw [Bool.or_eq_true] at hw
      rcases hw with h | h
      · rw [h]; simp
      · rw [h]; simp
    | succ m ih =>
      intro n' n hn h1 hn'
      obtain ⟨n', rfl⟩ : ∃ k, n' = k + 1 := ⟨n' - 1, by omega⟩
      have en : subF .i64 (mulF .i64 (Int.ofNat 8) (Int.ofNat n)) (Int.ofNat 1) = Int.ofNat (8 * n - 1) := by
        rw [show mulF .i64 (Int.ofNat 8) (Int.ofNat n) = Int.ofNat (8 * n) from wrapF_nat (k := .i64) (m := 8 * n) (show _ ≤ 9223372036854775807 by omega), subF_nat (by omega) (by omega)]
      have hw := lenS_less v h1 (by omega)
      unfold enough at hw
      rw [Bool.or_eq_false_iff] at hw
      have key : ∀ K1 K2, T68_2 [] D W K1 K2 v (Int.ofNat n) σ = K2 v (Int.ofNat (n + 1)) σ := by
        intro K1 K2
        unfold T68_2
        rw [en]
        simp -implicitDefEqProofs only [nnK_nat, join_and, shr_i64 v (show 8 * n - 1 ≤ 64 by omega), ltF_nat, eq_of, show Int.ofNat 0 = (0 : Int) from rfl, show Int.negSucc 0 = (-1 : Int) from rfl, hw.1, hw.2, show decide (n < 8) = true from decide_eq_true (by omega), Bool.not_false, Bool.and_true, condK_true]
        simp -implicitDefEqProofs only [join_id, condK_true, show addF .i64 (Int.ofNat n) (Int.ofNat 1) = Int.ofNat (n + 1) from addF_nat (by omega)]
      refine (key _ _).trans ?_
      exact ih n' (n + 1) (by omega) (by omega) (by omega)
  obtain ⟨u, σ', g, hu, f⟩ := hO σ (lenS v) ht hr.2
  refine ⟨u, σ', ?_, hu, f⟩
  refine (show F68 [] D W N [.int .i64 v] σ = L68_2 [] D W N N v (Int.ofNat 1) σ from rfl).trans ?_
  rw [loop (lenS v - 1) N 1 (by omega) (Nat.le_refl _) (by omega)]
  show T68_1 [] D W v (Int.ofNat (lenS v)) σ = _
  unfold T68_1
  simp -implicitDefEqProofs only [↓g, ↓callK_some_, ↓rtOne_of hu.1.one]
theorem rsigned_F {v : Int} (hv : In64i v) (hN : 8 < N) (ht : Tidy σ) : Makes (F26 [] D W N) [.int .i64 v] σ (sOct v) := by
  have hr := lenS_range v
  have loop : ∀ (m n' j : Nat) (u : V) (σ1 : H), j + 1 + m = lenS v → m < n' → Fr Nowhere σ σ1 → Nb σ σ1 u (octBE v (j + 1)) →
      ∃ u' σ', L26_2 [] D W N n' (v / 2 ^ (8 * j)) u σ1 = some (u', σ') ∧ Nb σ σ' u' (sOct v) ∧ Fr Nowhere σ σ' := by
    intro m
    induction m with
    | zero =>
      intro n' j u σ1 hj hn' f1 hu
      obtain ⟨n', rfl⟩ : ∃ k, n' = k + 1 := ⟨n' - 1, by omega⟩
      have hw := lenS_enough hv
      have hjl : lenS v = j + 1 := by omega
      rw [hjl, small_iff v (by omega), Nat.add_sub_cancel, Bool.and_eq_true, decide_eq_true_eq, decide_eq_true_eq] at hw
      refine ⟨u, σ1, ?_, by unfold sOct; rw [hjl]; exact hu, f1⟩
      show T26_2 [] D W _ _ (v / 2 ^ (8 * j)) u σ1 = _
      unfold T26_2
      simp -implicitDefEqProofs only [join_or, ltF_eq]
      rw [condK_iff (by
        simp only [Bool.or_eq_false_iff, decide_eq_false_iff_not]
        refine ⟨?_, ?_⟩
        · show ¬ (v / 2 ^ (8 * j) < -128); omega
        · show ¬ ((127 : Int) < v / 2 ^ (8 * j)); omega)]
      rfl
    | succ m ih =>
      intro n' j u σ1 hj hn' f1 hu
      obtain ⟨n', rfl⟩ : ∃ k, n' = k + 1 := ⟨n' - 1, by omega⟩
      have hw := lenS_less v (n := j + 1) (by omega) (by omega)
      rw [small_iff v (by omega), Nat.add_sub_cancel, Bool.and_eq_false_iff, decide_eq_false_iff_not, decide_eq_false_iff_not] at hw
      obtain ⟨σ2, e2, f2, a2, n2⟩ := mk_new f1.tidy (u8s [byteAt v (j + 1)])
      have f02 := f1.trans f2 (fun _ _ h => h)
      obtain ⟨u3, σ3, g3, h3, f3, _⟩ := app_by (E := []) (σ0 := σ) (σ := σ2) (v := .sl σ1.next 0 1 (.ex 1)) (l := [byteAt v (j + 1)]) (x := u) (m := octBE v (j + 1)) (Nb.lit a2 f1.le) f02 (hu.fr f2 f1.tidy).by_ (by rw [octBE_length]; simp; omega)
      obtain ⟨u4, σ4, g4, h4, f4⟩ := ih n' (j + 1) u3 σ3 (by omega) (by omega) f3 h3
      refine ⟨u4, σ4, ?_, h4, f4⟩
      have key : ∀ K1 K2, T26_2 [] D W K1 K2 (v / 2 ^ (8 * j)) u σ1 = K2 (v / 2 ^ (8 * (j + 1))) u3 σ3 := by
        intro K1 K2
        unfold T26_2
        simp -implicitDefEqProofs only [join_or, ltF_eq]
        rw [condK_ift (by
          simp only [Bool.or_eq_true, decide_eq_true_eq]
          rcases hw with h | h
          · left; show v / 2 ^ (8 * j) < -128; omega
          · right; show (127 : Int) < v / 2 ^ (8 * j); omega)]
        have e2' : newB σ1 (.cells [V.int .u8 (byteAt v (j + 1))]) = σ2 := e2
        simp -implicitDefEqProofs only [down8, byte_i64, ↓e2', ↓g3, ↓rtOne_of h3.1.one]
      exact (key _ _).trans g4
  obtain ⟨σ1, e1, f1, a1, n1⟩ := mk_new ht (u8s [byteAt v 0])
  obtain ⟨u, σ', g, hu, f⟩ := loop (lenS v - 1) N 0 (.sl σ.next 0 1 (.ex 1)) σ1 (by omega) (by omega) f1 (Nb.lit (l := [byteAt v 0]) a1 (Nat.le_refl _))
  refine ⟨u, σ', ?_, hu, f⟩
  have e1' : newB σ (.cells [V.int .u8 (wrapF .u8 v)]) = σ1 := by
    rw [← e1]
    have : wrapF .u8 v = byteAt v 0 := by rw [← byte_i64]; congr 1; simp
    rw [this]; rfl
  have hz : v / 2 ^ (8 * 0) = v := by simp
  rw [hz] at g
  show T26_0 [] D W (L26_2 [] D W N N) v σ = _
  unfold T26_0
  rw [e1']
  exact g
end
end
end Go.Proofs.YtpbdnlclihogfaaGreatDoor
set_option linter.all false
set_option maxRecDepth 100000
namespace Go.Proofs.YtpbdnlclihogfaaGreatDoor
open Go Go.Og
noncomputable section
def clsN (c : Nat) (made : Bool) : Nat := (if c = 0 then 0 else 128) + (if made = true then 32 else 0)
def headS (c : Nat) (made : Bool) (k n : Nat) : List Int := [orF .u8 (Int.ofNat (clsN c made)) (Int.ofNat k), Int.ofNat n]
def elemS (c : Nat) (made : Bool) (k : Nat) (l : List Int) : List Int := headS c made k l.length ++ l
theorem elemS_length (c : Nat) (made : Bool) (k : Nat) (l : List Int) : (elemS c made k l).length = l.length + 2 := by simp [elemS, headS]
theorem maxF_nat' (n : Nat) : maxF (Int.ofNat 0) (Int.ofNat n) = Int.ofNat n := by
  unfold maxF
  split
  · rfl
  · rename_i h
    have : n = 0 := by
      have h : ¬ ((0 : Int) < (n : Int)) := h
      omega
    subst this; rfl
theorem maxF_nat (n : Nat) : maxF (Int.ofNat n) (Int.ofNat 0) = Int.ofNat n := by
  unfold maxF; cases n <;> rfl
theorem Row.lit1 {σ : H} {b : Nat} {v : V} (h : Atc σ b [v]) : Row σ 1 1 (.sl b 0 1 (.ex 1)) (fun _ => [v]) := ⟨.inr ⟨b, _, _, rfl, h, fun k hk => by
  obtain rfl : k = 0 := by omega
  exact ⟨Nat.le_refl _, rfl⟩⟩⟩
theorem Row.lit2 {σ : H} {b : Nat} {v w : V} (h : Atc σ b [v, w]) : Row σ 1 2 (.sl b 0 2 (.ex 2)) (fun k => [if k = 0 then v else w]) := ⟨.inr ⟨b, _, _, rfl, h, fun k hk => by
  have : k = 0 ∨ k = 1 := by omega
  rcases this with rfl | rfl
  · exact ⟨by simp, rfl⟩
  · exact ⟨by simp, rfl⟩⟩⟩
section
variable {D : Den} {W : DrawFn} {N : Nat} {σ σ' : H}
theorem tlvHead_F {c k n : Nat} (hc : c = 0 ∨ c = 2) (hk : k < 31) (hn : n < 128) (made : Bool) (ht : Tidy σ) : Makes (F165 [] D W N) [.agg [.int .i64 (Int.ofNat c), .int .i64 (Int.ofNat k)], .bool made, .int .i64 (Int.ofNat n)] σ (headS c made k n) := by
  obtain ⟨σ1, e1, f1, a1, n1⟩ := mk_new ht [.int .i64 (Int.ofNat c), .int .i64 (Int.ofNat k)]
  obtain ⟨σ2, e2, f2, a2, n2⟩ := mk_new f1.tidy (u8s [orF .u8 (Int.ofNat (clsN c made)) (Int.ofNat k)])
  obtain ⟨σ3, e3, f3, a3, n3⟩ := mk_new f2.tidy (u8s [Int.ofNat n])
  have f02 := f1.trans f2 (fun _ _ h => h)
  have f03 := f02.trans f3 (fun _ _ h => h)
  have a23 := f3.at_ a2 f2.tidy (fun h => h)
  obtain ⟨u, σ4, g4, h4, f4, _⟩ := app_by (E := []) (σ0 := σ) (σ := σ3) (v := .sl σ1.next 0 1 (.ex 1)) (l := [orF .u8 (Int.ofNat (clsN c made)) (Int.ofNat k)]) (x := .sl σ2.next 0 1 (.ex 1)) (m := [Int.ofNat n]) (Nb.lit a23 f1.le) f03 (Nb.lit (σ0 := σ) a3 (by have := f02.le; omega)).by_ (by simp)
  refine ⟨u, σ4, ?_, h4, f4⟩
  have e2' : newB σ1 (.cells [V.int .u8 (orF .u8 (Int.ofNat (clsN c made)) (Int.ofNat k))]) = σ2 := e2
  have e3' : newB σ2 (.cells [V.int .u8 (Int.ofNat n)]) = σ3 := e3
  have w1 : wrapF .u8 (Int.ofNat k) = Int.ofNat k := wrapF_nat (k := .u8) (show k ≤ 255 by omega)
  have w2 : wrapF .u8 (Int.ofNat n) = Int.ofNat n := wrapF_nat (k := .u8) (show n ≤ 255 by omega)
  have d1 : decide (k < 31) = true := decide_eq_true hk
  have d2 : decide (n < 128) = true := decide_eq_true hn
  have tail : J165_1 [] D W N (Int.ofNat n) σ.next 0 (Int.ofNat (clsN c made)) σ1 = some (u, σ4) := by
    show T165_1 [] D W (T165_2 [] D W) (Int.ofNat n) σ.next 0 (Int.ofNat (clsN c made)) σ1 = _
    unfold T165_1 T165_2
    simp -implicitDefEqProofs only [↓nthK_zero, ↓nthK_succ, ↓subK_2, ↓subK_4, ↓subK_5, ↓subK_6, ↓subK_13, ↓subK_con, ↓rtInt_int, ↓rtBool_bool, ↓rtStr_str, ↓rtPtr_ptr, ↓rtAgg_agg, ↓rtTup_tup, ↓rtCons_cons, ↓rtNil_nil, ↓rtOne_nils, ↓rtOne_pt, ↓rtOne_sl, ↓slenK_nils, ↓slenK_sl, ↓callK_some_, ↓condK_ift, ↓condK_iff, ↓chk_if, ↓joinB_, cells_agg, cells_int, cells_ptr, allOne_cons, allOne_nil, one_int, one_bool, one_str, one_nils, one_sl, one_ptr, Bool.and_true, Nat.add_eq, Nat.zero_add, Bool.not_true, Bool.not_false, eqF_nat, ltF_nat, leF_nat, Nat.reduceEqDiff, Nat.reduceLT, Nat.reduceLeDiff, decide_false, decide_true, Bool.false_or, Bool.true_or, Bool.or_false, Bool.or_true, Bool.false_and, Bool.true_and, Bool.and_false, ↓ldK_is a1, maxF_nat, d1, d2, w1, w2, ↓e2', ↓e3', ↓g4, ↓rtOne_of h4.1.one]
  show T165_0 [] D W (J165_1 [] D W N) (Int.ofNat c) (Int.ofNat k) made (Int.ofNat n) σ = _
  unfold T165_0
  simp -implicitDefEqProofs only [↓nthK_zero, ↓nthK_succ, ↓subK_2, ↓subK_4, ↓subK_5, ↓subK_6, ↓subK_13, ↓subK_con, ↓rtInt_int, ↓rtBool_bool, ↓rtStr_str, ↓rtPtr_ptr, ↓rtAgg_agg, ↓rtTup_tup, ↓rtCons_cons, ↓rtNil_nil, ↓rtOne_nils, ↓rtOne_pt, ↓rtOne_sl, ↓slenK_nils, ↓slenK_sl, ↓callK_some_, ↓condK_ift, ↓condK_iff, ↓chk_if, ↓joinB_, cells_agg, cells_int, cells_ptr, allOne_cons, allOne_nil, one_int, one_bool, one_str, one_nils, one_sl, one_ptr, Bool.and_true, Nat.add_eq, Nat.zero_add, Bool.not_true, Bool.not_false, ↓e1, ↓ldK_is a1]
  rcases hc with rfl | rfl <;> cases made
  · exact tail
  · exact tail
  · exact tail
  · exact tail
theorem rhead_F {c k n : Nat} (hc : c = 0 ∨ c = 2) (hk : k < 31) (hn : n < 128) (made : Bool) (ht : Tidy σ) : Makes (F49 [] D W N) [.agg [.int .i64 (Int.ofNat c), .int .i64 (Int.ofNat k)], .bool made, .int .i64 (Int.ofNat n)] σ (headS c made k n) := by
  obtain ⟨σ1, e1, f1, a1, n1⟩ := mk_new ht [.int .i64 (Int.ofNat c), .int .i64 (Int.ofNat k)]
  obtain ⟨σ2, e2, f2, a2, n2⟩ := mk_new f1.tidy (u8s [orF .u8 (Int.ofNat (clsN c made)) (Int.ofNat k)])
  obtain ⟨σ3, e3, f3, a3, n3⟩ := mk_new f2.tidy (u8s [Int.ofNat n])
  have f02 := f1.trans f2 (fun _ _ h => h)
  have f03 := f02.trans f3 (fun _ _ h => h)
  have a23 := f3.at_ a2 f2.tidy (fun h => h)
  obtain ⟨u, σ4, g4, h4, f4, _⟩ := app_by (E := []) (σ0 := σ) (σ := σ3) (v := .sl σ1.next 0 1 (.ex 1)) (l := [orF .u8 (Int.ofNat (clsN c made)) (Int.ofNat k)]) (x := .sl σ2.next 0 1 (.ex 1)) (m := [Int.ofNat n]) (Nb.lit a23 f1.le) f03 (Nb.lit (σ0 := σ) a3 (by have := f02.le; omega)).by_ (by simp)
  refine ⟨u, σ4, ?_, h4, f4⟩
  have e2' : newB σ1 (.cells [V.int .u8 (orF .u8 (Int.ofNat (clsN c made)) (Int.ofNat k))]) = σ2 := e2
  have e3' : newB σ2 (.cells [V.int .u8 (Int.ofNat n)]) = σ3 := e3
  have w1 : wrapF .u8 (Int.ofNat k) = Int.ofNat k := wrapF_nat (k := .u8) (show k ≤ 255 by omega)
  have w2 : wrapF .u8 (Int.ofNat n) = Int.ofNat n := wrapF_nat (k := .u8) (show n ≤ 255 by omega)
  have d1 : decide (k < 31) = true := decide_eq_true hk
  have d2 : decide (n < 128) = true := decide_eq_true hn
  have tail : J49_1 [] D W N (Int.ofNat n) σ.next 0 (Int.ofNat (clsN c made)) σ1 = some (u, σ4) := by
    show T49_1 [] D W (T49_2 [] D W) (Int.ofNat n) σ.next 0 (Int.ofNat (clsN c made)) σ1 = _
    unfold T49_1 T49_2
    simp -implicitDefEqProofs only [↓nthK_zero, ↓nthK_succ, ↓subK_2, ↓subK_4, ↓subK_5, ↓subK_6, ↓subK_13, ↓subK_con, ↓rtInt_int, ↓rtBool_bool, ↓rtStr_str, ↓rtPtr_ptr, ↓rtAgg_agg, ↓rtTup_tup, ↓rtCons_cons, ↓rtNil_nil, ↓rtOne_nils, ↓rtOne_pt, ↓rtOne_sl, ↓slenK_nils, ↓slenK_sl, ↓callK_some_, ↓condK_ift, ↓condK_iff, ↓chk_if, ↓joinB_, cells_agg, cells_int, cells_ptr, allOne_cons, allOne_nil, one_int, one_bool, one_str, one_nils, one_sl, one_ptr, Bool.and_true, Nat.add_eq, Nat.zero_add, Bool.not_true, Bool.not_false, eqF_nat, ltF_nat, leF_nat, Nat.reduceEqDiff, Nat.reduceLT, Nat.reduceLeDiff, decide_false, decide_true, Bool.false_or, Bool.true_or, Bool.or_false, Bool.or_true, Bool.false_and, Bool.true_and, Bool.and_false, ↓ldK_is a1, maxF_nat', d1, d2, w1, w2, ↓e2', ↓e3', ↓g4, ↓rtOne_of h4.1.one]
  show T49_0 [] D W (J49_1 [] D W N) (Int.ofNat c) (Int.ofNat k) made (Int.ofNat n) σ = _
  unfold T49_0
  simp -implicitDefEqProofs only [↓nthK_zero, ↓nthK_succ, ↓subK_2, ↓subK_4, ↓subK_5, ↓subK_6, ↓subK_13, ↓subK_con, ↓rtInt_int, ↓rtBool_bool, ↓rtStr_str, ↓rtPtr_ptr, ↓rtAgg_agg, ↓rtTup_tup, ↓rtCons_cons, ↓rtNil_nil, ↓rtOne_nils, ↓rtOne_pt, ↓rtOne_sl, ↓slenK_nils, ↓slenK_sl, ↓callK_some_, ↓condK_ift, ↓condK_iff, ↓chk_if, ↓joinB_, cells_agg, cells_int, cells_ptr, allOne_cons, allOne_nil, one_int, one_bool, one_str, one_nils, one_sl, one_ptr, Bool.and_true, Nat.add_eq, Nat.zero_add, Bool.not_true, Bool.not_false, ↓e1, ↓ldK_is a1]
  rcases hc with rfl | rfl <;> cases made
  · exact tail
  · exact tail
  · exact tail
  · exact tail
def SpHead (F : List V → H → Ans) : Prop := ∀ {σ : H} {c k n : Nat}, c = 0 ∨ c = 2 → k < 31 → n < 128 → ∀ made : Bool, Tidy σ → Makes F [.agg [.int .i64 (Int.ofNat c), .int .i64 (Int.ofNat k)], .bool made, .int .i64 (Int.ofNat n)] σ (headS c made k n)
theorem relem_F (hH : SpHead (D 49)) {c k : Nat} {l : List Int} {v : V} (hc : c = 0 ∨ c = 2) (hk : k < 31) (hn : l.length < 128) (made : Bool) (ht : Tidy σ) (hv : By σ v l) : Makes (F27 [] D W N) [.agg [.int .i64 (Int.ofNat c), .int .i64 (Int.ofNat k)], .bool made, v] σ (elemS c made k l) := by
  obtain ⟨σ1, e1, f1, a1, n1⟩ := mk_new ht [.int .i64 (Int.ofNat c), .int .i64 (Int.ofNat k)]
  obtain ⟨u2, σ2, g2, h2, f2⟩ := hH (σ := σ1) hc hk hn made f1.tidy
  have f02 := f1.trans f2 (fun _ _ h => h)
  obtain ⟨u3, σ3, g3, h3, f3, _⟩ := app_by (E := []) (h2.mono f1.le) f02 (hv.fr f02 ht) (by simp [headS]; omega)
  refine ⟨u3, σ3, ?_, h3, f3⟩
  have hl := hv.slen
  show T27_0 [] D W (Int.ofNat c) (Int.ofNat k) made v σ = _
  unfold T27_0
  simp -implicitDefEqProofs only [↓nthK_zero, ↓nthK_succ, ↓subK_2, ↓subK_4, ↓subK_5, ↓subK_6, ↓subK_13, ↓subK_con, ↓rtInt_int, ↓rtBool_bool, ↓rtStr_str, ↓rtPtr_ptr, ↓rtAgg_agg, ↓rtTup_tup, ↓rtCons_cons, ↓rtNil_nil, ↓rtOne_nils, ↓rtOne_pt, ↓rtOne_sl, ↓slenK_nils, ↓slenK_sl, ↓callK_some_, ↓condK_ift, ↓condK_iff, ↓chk_if, ↓joinB_, cells_agg, cells_int, cells_ptr, allOne_cons, allOne_nil, one_int, one_bool, one_str, one_nils, one_sl, one_ptr, Bool.and_true, Nat.add_eq, Nat.zero_add, Bool.not_true, Bool.not_false, ↓e1, ↓ldnK_is a1, ↓hl, ↓g2, ↓g3, ↓rtOne_of h2.1.one, ↓rtOne_of h3.1.one]
theorem tlvEl_F (hJ : SpJoin (D 116)) (hH : SpHead (D 165)) {c k n : Nat} {v : V} {pv : Nat → V} {pl : Nat → List Int} (hc : c = 0 ∨ c = 2) (hk : k < 31) (hl : (catN pl n 0).length < 128) (hn : n ≤ 10000) (made : Bool) (ht : Tidy σ) (hr : Row σ 1 n v fun k => [pv k]) (hp : ∀ k, k < n → By σ (pv k) (pl k)) :
    Makes (F117 [] D W N) [.agg [.int .i64 (Int.ofNat c), .int .i64 (Int.ofNat k)], .bool made, v] σ (elemS c made k (catN pl n 0)) := by
  obtain ⟨σ1, e1, f1, a1, n1⟩ := mk_new ht [.int .i64 (Int.ofNat c), .int .i64 (Int.ofNat k)]
  obtain ⟨u2, σ2, g2, h2, f2⟩ := hJ f1.tidy (hr.fr0 f1 ht) (fun k hk => (hp k hk).fr f1 ht) (by omega) hn
  have f02 := f1.trans f2 (fun _ _ h => h)
  have a12 := f2.at_ a1 f1.tidy (fun h => h)
  obtain ⟨u3, σ3, g3, h3, f3⟩ := hH (σ := σ2) hc hk hl made f2.tidy
  have f03 := f02.trans f3 (fun _ _ h => h)
  obtain ⟨σ4, e4, f4, a4, n4⟩ := mk_new f3.tidy [u3, u2]
  have f04 := f03.trans f4 (fun _ _ h => h)
  obtain ⟨u5, σ5, g5, h5, f5⟩ := hJ (σ := σ4) (pv := fun q => if q = 0 then u3 else u2) (pl := fun q => if q = 0 then headS c made k (catN pl n 0).length else catN pl n 0) f4.tidy (Row.lit2 a4) (fun q hq => by
    have : q = 0 ∨ q = 1 := by omega
    rcases this with rfl | rfl
    · exact (h3.fr f4 f3.tidy).by_
    · exact (h2.fr (f3.trans f4 (fun _ _ h => h)) f2.tidy).by_) (by simp [catN, headS]; omega) (by omega)
  refine ⟨u5, σ5, ?_, ?_, f04.trans f5 (fun _ _ h => h)⟩
  · have hl2 := h2.by_.slen
    show T117_0 [] D W (Int.ofNat c) (Int.ofNat k) made v σ = _
    unfold T117_0
    simp -implicitDefEqProofs only [↓nthK_zero, ↓nthK_succ, ↓subK_2, ↓subK_4, ↓subK_5, ↓subK_6, ↓subK_13, ↓subK_con, ↓rtInt_int, ↓rtBool_bool, ↓rtStr_str, ↓rtPtr_ptr, ↓rtAgg_agg, ↓rtTup_tup, ↓rtCons_cons, ↓rtNil_nil, ↓rtOne_nils, ↓rtOne_pt, ↓rtOne_sl, ↓slenK_nils, ↓slenK_sl, ↓callK_some_, ↓condK_ift, ↓condK_iff, ↓chk_if, ↓joinB_, cells_agg, cells_int, cells_ptr, allOne_cons, allOne_nil, one_int, one_bool, one_str, one_nils, one_sl, one_ptr, Bool.and_true, Nat.add_eq, Nat.zero_add, Bool.not_true, Bool.not_false, hr.len.1, ↓e1, ↓ldnK_is a12, ↓hl2, ↓g2, ↓g3, ↓fill2 h3.1.one h2.1.one, h3.1.one, h2.1.one, ↓e4, ↓g5, ↓rtOne_of h2.1.one, ↓rtOne_of h3.1.one, ↓rtOne_of h5.1.one]
  · have : elemS c made k (catN pl n 0) = catN (fun q => if q = 0 then headS c made k (catN pl n 0).length else catN pl n 0) 2 0 := by simp [catN, elemS]
    rw [this]
    exact h5.mono f04.le
end
end
end Go.Proofs.YtpbdnlclihogfaaGreatDoor
set_option linter.all false
set_option maxRecDepth 100000
namespace Go.Proofs.YtpbdnlclihogfaaGreatDoor
open Go Go.Og
noncomputable section
def SpEl (F : List V → H → Ans) : Prop := ∀ {σ : H} {c k n : Nat} {v : V} {pv : Nat → V} {pl : Nat → List Int}, c = 0 ∨ c = 2 → k < 31 → (catN pl n 0).length < 128 → n ≤ 10000 → ∀ made : Bool, Tidy σ → Row σ 1 n v (fun k => [pv k]) → (∀ k, k < n → By σ (pv k) (pl k)) →
  Makes F [.agg [.int .i64 (Int.ofNat c), .int .i64 (Int.ofNat k)], .bool made, v] σ (elemS c made k (catN pl n 0))
/-- Within the first so many of these tags. -/
def encW (tg : Nat → Nat × Nat) (nt : Nat) (made : Bool) : Nat → List Int → List Int
  | 0, b => b
  | j + 1, b => encW tg nt made j (elemS (tg j).1 (made || decide (j < nt - 1)) (tg j).2 b)
def tagC (t : Nat × Nat) : List V := [.int .i64 (Int.ofNat t.1), .int .i64 (Int.ofNat t.2)]
def Tg (t : Nat × Nat) : Prop := (t.1 = 0 ∨ t.1 = 2) ∧ t.2 < 31
def idx : Nat → Int
  | 0 => Int.negSucc 0
  | m + 1 => Int.ofNat m
def SpWithinT (F : List V → H → Ans) : Prop := ∀ {σ : H} {nt n : Nat} {tv v : V} {tg : Nat → Nat × Nat} {pv : Nat → V} {pl : Nat → List Int}, Tidy σ → Row σ 2 nt tv (fun j => tagC (tg j)) → (∀ j, j < nt → Tg (tg j)) → Row σ 1 n v (fun k => [pv k]) → (∀ k, k < n → By σ (pv k) (pl k)) → (catN pl n 0).length + 2 * nt < 128 → n ≤ 10000 → ∀ made : Bool,
  Makes F [tv, .bool made, v] σ (encW tg nt made nt (catN pl n 0))
section
variable {D : Den} {W : DrawFn} {N : Nat} {σ σ' : H}
theorem dwithin_F (hJ : SpJoin (D 116)) (hE : SpEl (D 117)) (hN : 128 < N) : SpWithinT (F67 [] D W N) := by
  intro σ nt n tv v tg pv pl ht hr hg hpr hp hs hn made
  have loop : ∀ (m n' : Nat) (b : List Int) (u : V) (σ1 : H), m ≤ nt → m < n' → Fr Nowhere σ σ1 → Nb σ σ1 u b → b.length + 2 * m < 128 →
      ∃ u' σ', L67_2 [] D W N n' tv made u (idx m) σ1 = some (u', σ') ∧ Nb σ σ' u' (encW tg nt made m b) ∧ Fr Nowhere σ σ' := by
    intro m
    induction m with
    | zero =>
      intro n' b u σ1 hm hn' f1 hu hl
      obtain ⟨n', rfl⟩ : ∃ k, n' = k + 1 := ⟨n' - 1, by omega⟩
      refine ⟨u, σ1, ?_, hu, f1⟩
      show T67_2 [] D W _ _ tv made u (Int.negSucc 0) σ1 = _
      unfold T67_2
      rfl
    | succ m ih =>
      intro n' b u σ1 hm hn' f1 hu hl
      obtain ⟨n', rfl⟩ : ∃ k, n' = k + 1 := ⟨n' - 1, by omega⟩
      have hlt : m < nt := by omega
      have rd : ∀ κ, iaddrSK 2 tv (Int.ofNat m) (fun b o => ldnK [] σ1 b o 2 κ) = κ (tagC (tg m)) := fun κ => (hr.fr0 f1 ht).all hlt κ
      obtain ⟨σ2, e2, f2, a2, n2⟩ := mk_new f1.tidy [u]
      have f02 := f1.trans f2 (fun _ _ h => h)
      obtain ⟨u3, σ3, g3, h3, f3⟩ := hE (σ := σ2) (c := (tg m).1) (k := (tg m).2) (pv := fun _ => u) (pl := fun _ => b) (hg m hlt).1 (hg m hlt).2 (by simp [catN]; omega) (by omega) (made || decide (m < nt - 1)) f2.tidy (Row.lit1 a2) (fun _ _ => (hu.fr f2 f1.tidy).by_)
      have f03 := f02.trans f3 (fun _ _ h => h)
      have ec : catN (fun _ => b) 1 0 = b := by simp [catN]
      rw [ec] at h3
      obtain ⟨u4, σ4, g4, h4, f4⟩ := ih n' _ u3 σ3 (by omega) (by omega) f03 (h3.mono f02.le) (by rw [elemS_length]; omega)
      refine ⟨u4, σ4, ?_, h4, f4⟩
      unfold tagC at rd
      have hln := hr.len.2
      have sb : subF .i64 (Int.ofNat m) (Int.ofNat 1) = idx m := by
        cases m with
        | zero => rfl
        | succ m => exact subF_nat (by omega) (by omega)
      have key : ∀ K1 K2, T67_2 [] D W K1 K2 tv made u (Int.ofNat m) σ1 = K2 tv made u3 (idx m) σ3 := by
        intro K1 K2
        unfold T67_2
        rw [leF_nat, decide_eq_true (Nat.zero_le _), condK_true, rd]
        simp -implicitDefEqProofs only [rtCons_cons, rtInt_int, rtNil_nil, hln, subF_nat (show 1 ≤ nt by omega) (show nt ≤ 9223372036854775807 by omega), ltF_nat, join_or]
        simp -implicitDefEqProofs only [↓nthK_zero, ↓nthK_succ, ↓subK_2, ↓subK_4, ↓subK_5, ↓subK_6, ↓subK_13, ↓subK_con, ↓rtInt_int, ↓rtBool_bool, ↓rtStr_str, ↓rtPtr_ptr, ↓rtAgg_agg, ↓rtTup_tup, ↓rtCons_cons, ↓rtNil_nil, ↓rtOne_nils, ↓rtOne_pt, ↓rtOne_sl, ↓slenK_nils, ↓slenK_sl, ↓callK_some_, ↓condK_ift, ↓condK_iff, ↓chk_if, ↓joinB_, cells_agg, cells_int, cells_ptr, allOne_cons, allOne_nil, one_int, one_bool, one_str, one_nils, one_sl, one_ptr, Bool.and_true, Nat.add_eq, Nat.zero_add, Bool.not_true, Bool.not_false, ↓fill1 hu.1.one, hu.1.one, ↓e2, ↓g3, ↓rtOne_of h3.1.one, sb]
      exact (key _ _).trans g4
  obtain ⟨u1, σ1, g1, h1, f1⟩ := hJ ht hpr hp (by omega) hn
  obtain ⟨u2, σ2, g2, h2, f2⟩ := loop nt N (catN pl n 0) u1 σ1 (Nat.le_refl _) (by omega) f1 h1 hs
  refine ⟨u2, σ2, ?_, h2, f2⟩
  have hln := hr.len.2
  have sb : subF .i64 (Int.ofNat nt) (Int.ofNat 1) = idx nt := by
    cases nt with
    | zero => rfl
    | succ m => exact subF_nat (by omega) (by omega)
  have key : ∀ K, T67_0 [] D W K tv made v σ = K tv made u1 (idx nt) σ1 := by
    intro K
    unfold T67_0
    simp -implicitDefEqProofs only [↓nthK_zero, ↓nthK_succ, ↓subK_2, ↓subK_4, ↓subK_5, ↓subK_6, ↓subK_13, ↓subK_con, ↓rtInt_int, ↓rtBool_bool, ↓rtStr_str, ↓rtPtr_ptr, ↓rtAgg_agg, ↓rtTup_tup, ↓rtCons_cons, ↓rtNil_nil, ↓rtOne_nils, ↓rtOne_pt, ↓rtOne_sl, ↓slenK_nils, ↓slenK_sl, ↓callK_some_, ↓condK_ift, ↓condK_iff, ↓chk_if, ↓joinB_, cells_agg, cells_int, cells_ptr, allOne_cons, allOne_nil, one_int, one_bool, one_str, one_nils, one_sl, one_ptr, Bool.and_true, Nat.add_eq, Nat.zero_add, Bool.not_true, Bool.not_false, ↓g1, ↓rtOne_of h1.1.one, ↓hln, sb]
  exact (key _).trans g2
end
end
end Go.Proofs.YtpbdnlclihogfaaGreatDoor
set_option linter.all false
set_option maxRecDepth 100000
namespace Go.Proofs.YtpbdnlclihogfaaGreatDoor
open Go Go.Og
noncomputable section
def SpSigned (F : List V → H → Ans) : Prop := ∀ {σ : H} {v : Int}, In64i v → Tidy σ → Makes F [.int .i64 v] σ (sOct v)
/-- The tags of a type. -/
structure Tgs (σ : H) (x : Ty) (nt : Nat) (tg : Nat → Nat × Nat) : Prop where
  row : Row σ 2 nt x.tags fun j => tagC (tg j)
  ok : ∀ j, j < nt → Tg (tg j)
  small : nt ≤ 10
theorem Tgs.fr {σ σ' : H} {x : Ty} {nt : Nat} {tg : Nat → Nat × Nat} (h : Tgs σ x nt tg) (f : Fr Nowhere σ σ') (ht : Tidy σ) : Tgs σ' x nt tg := ⟨h.row.fr0 f ht, h.ok, h.small⟩
theorem Tgs.beq {σ : H} {x : Ty} {nt : Nat} {tg : Nat → Nat × Nat} (h : Tgs σ x nt tg) : V.beq x.tags x.tags = true := by
  rcases h.row.is with ⟨_, e⟩ | ⟨b, c, L, e, _⟩
  · rw [e]; rfl
  · rw [e]; exact beq_self _ (by rfl)
section
variable {D : Den} {W : DrawFn} {N : Nat} {σ σ' : H} {p nT : Nat} {ty : Nat → Ty} {nm : BS} {nv rv tv : V} {rest : List V}
theorem reg_int (hS : SpSigned (D 68)) (hW : SpWithinT (D 67)) {v : Int} (hv : In64i v) {x : Ty} {nt : Nat} {tg : Nat → Nat × Nat} (ht : Tidy σ) {b5 b7 : Nat} (a5 : Atc σ b5 (intC v)) (a7 : Atc σ b7 x.c) (hT : Tgs σ x nt tg) :
    ∃ env u σ', drawW [] D G40_0 H40_0 [(5, .ptr b5 0), (7, .ptr b7 0)] σ = some (env, σ') ∧ Go.Og.look env 6 = some u ∧ Nb σ σ' u (encW tg nt false nt (sOct v)) ∧ Fr Nowhere σ σ' := by
  obtain ⟨u1, σ1, g1, h1, f1⟩ := hS (σ := ⟨σ.next + 8, σ.bl⟩) hv (ht.wide 8)
  have le1 : σ.next + 8 ≤ σ1.next := f1.le
  have f01 : Fr Nowhere σ σ1 := f1.wide
  have ln := (sOct_length v).2
  -- behind the block that is made
  have fb : Fr Nowhere σ ⟨σ1.next, (σ.next + 5, .cells [u1]) :: σ1.bl⟩ := ⟨fun c hc => by
    have hc : σ1.next ≤ c := hc
    show lookF ((σ.next + 5, _) :: σ1.bl) c = none
    rw [lookF_cons, if_neg (by simp only []; omega)]; exact f1.tidy c hc, f01.le, fun c hc _ => by
    show lookF ((σ.next + 5, _) :: σ1.bl) c = _
    rw [lookF_cons, if_neg (by simp only []; omega)]; exact f01.same c hc (fun h => h)⟩
  have ab : Atc ⟨σ1.next, (σ.next + 5, .cells [u1]) :: σ1.bl⟩ (σ.next + 5) [u1] := by
    show lookF ((σ.next + 5, _) :: σ1.bl) _ = _
    rw [lookF_cons, if_pos rfl]
  have hu : By ⟨σ1.next, (σ.next + 5, .cells [u1]) :: σ1.bl⟩ u1 (sOct v) := by
    have hs := h1.by_
    rcases hs with h | ⟨b, o, c, L, rfl, ha, hl, hm⟩
    · exact .inl h
    · have hb : σ.next + 8 ≤ b := h1.2 b rfl
      refine .inr ⟨b, o, c, L, rfl, ?_, hl, hm⟩
      show lookF ((σ.next + 5, _) :: σ1.bl) b = _
      rw [lookF_cons, if_neg (by simp only []; omega)]; exact ha
  obtain ⟨u2, σ2, g2, h2, f2⟩ := hW (σ := ⟨σ1.next, (σ.next + 5, .cells [u1]) :: σ1.bl⟩) (n := 1) (v := .sl (σ.next + 5) 0 1 (.ex 1)) (pv := fun _ => u1) (pl := fun _ => sOct v) fb.tidy (hT.row.fr0 fb ht) hT.ok (Row.lit1 ab) (fun _ _ => hu) (by
    have := hT.small
    simp [catN]; omega) (by omega) false
  rw [show catN (fun _ => sOct v) 1 0 = sOct v by simp [catN]] at h2
  have go : Goes [] D σ 8 0 Nowhere G40_0 H40_0 ⟨[(5, .ptr b5 0), (7, .ptr b7 0)], σ.next + 8, [σ.bl], [], 0, []⟩ _ σ2 :=
    go_p (.ptr b7 1) rfl rfl <|
    go_l x.tags (go_start ht) rfl (old_ld1 (b := b7) (off := 1) rfl a7 rfl ht (fun h => h) hT.beq) fun _ r1 =>
    go_p (.ptr b5 1) rfl rfl <|
    go_l (.int .i64 v) r1 rfl (old_ld1 (b := b5) (off := 1) rfl a5 rfl ht (fun h => h) (beq_self _ rfl)) fun _ r2 =>
    go_k u1 r2 rfl (by decide) f1 (fun _ _ h => h) (fun _ h _ _ => h) g1 fun _ _ _ r3 =>
    go_a (.sl (σ.next + 5) 0 1 (.ex 1)) (.cells [u1]) 32 r3 rfl (by decide) (by decide) (build1 rfl h1.1.one) fun _ r4 =>
    go_k u2 r4 rfl (by decide) f2 (fun _ _ h => h) (fun _ h _ _ => h) (call_of (vs := [x.tags, .bool false, .sl (σ.next + 5) 0 1 (.ex 1)]) rfl (by rw [List.all_cons, live_of x.oneT]; rfl) g2) fun _ _ _ r5 =>
    go_p u2 rfl (mov_of rfl (live_of h2.1.one)) <|
    go_nil r5
  obtain ⟨d1, d2⟩ := go_draw (ops := G40_0) go
  exact ⟨_, u2, σ2, d1, rfl, h2.mono f01.le, d2⟩
/-- The first part of element: the value and its type are put aside. -/
theorem elem_head (ht : Tidy σ) (hc : Ck σ p nT ty nm nv rv tv []) {i : Nat} (hi : i < nT) (v : Vc) (hk1 : eqF (ty i).kind (Int.ofNat 1) = false) :
    ∃ σ3 b7, Fr Nowhere σ σ3 ∧ Atc σ3 σ.next v.c ∧ Atc σ3 b7 (ty i).c ∧ ∀ K, (eqF (ty i).kind (Int.ofNat 2) = true → T40_0 [] D W K p 0 (Int.ofNat i) v.k v.n v.b v.l v.r v.m σ = K p 0 σ.next 0 b7 0 (ty i).kind true σ3) ∧ (eqF (ty i).kind (Int.ofNat 2) = false → T40_0 [] D W K p 0 (Int.ofNat i) v.k v.n v.b v.l v.r v.m σ = K p 0 σ.next 0 b7 0 (ty i).kind (eqF (ty i).kind (Int.ofNat 3)) σ3) := by
  obtain ⟨σ1, e1, f1, a1, n1⟩ := mk_new ht v.c
  have c1 := hc.fr f1 ht
  have rd : ∀ κ, iaddrSK 13 tv (Int.ofNat i) (fun b o => ldnK [] σ1 b o 13 κ) = κ (ty i).c := fun κ => c1.row.all hi κ
  obtain ⟨σ2, e2, f2, a2, n2⟩ := mk_new f1.tidy [.int .i64 (Int.ofNat 0), .nils, .bool false, .bool false, .bool false, .bool false, .int .i64 (Int.ofNat 0), .int .i64 (Int.ofNat 0), .nils, .nils, .int .i64 (Int.ofNat 0), .bool false, .int .i64 (Int.ofNat 0)]
  obtain ⟨σ3, e3, f3, a3⟩ := mk_set f2.tidy a2 (ty i).c
  have f02 := f1.trans f2 (fun _ _ h => h)
  have f03 : Fr Nowhere σ σ3 := f02.trans f3 (fun c hc h => by have h : c = σ1.next := h; have := f1.le; omega)
  have a13 : Atc σ3 σ.next v.c := f3.at_ (f2.at_ a1 f1.tidy (fun h => h)) f2.tidy (by have := f1.le; show ¬ σ.next = σ1.next; omega)
  refine ⟨σ3, σ1.next, f03, a13, a3, fun K => ?_⟩
  have st : ∀ κ, stK 13 σ1.next 0 (.agg (ty i).c) σ2 κ = κ σ3 := fun κ => by
    rw [stK_at a2 (by
      unfold Ty.c
      simp only [cells_agg, cells_int, cells_ptr, allOne_cons, allOne_nil, one_int, one_bool, one_str, one_nils, one_sl, one_ptr, Bool.and_true, chk_t, nthK_zero, nthK_succ, subK_2, subK_4, subK_5, subK_6, subK_13, subK_con, rtInt_int, rtBool_bool, rtStr_str, rtPtr_ptr, rtAgg_agg, rtTup_tup, rtCons_cons, rtNil_nil, rtOne_nils, rtOne_pt, rtOne_sl, slenK_nils, slenK_sl, callK_some_, condK_true, condK_false, join_or, join_and, join_id, Nat.add_eq, Nat.zero_add, Bool.not_true, Bool.not_false, (ty i).oneT, (ty i).oneI, (ty i).oneF]; rfl), ← e3]
    rfl
  unfold Vc.c at e1
  unfold Ty.c at rd st a3
  constructor
  · intro h2
    unfold T40_0
    simp -implicitDefEqProofs only [↓nthK_zero, ↓nthK_succ, ↓subK_2, ↓subK_4, ↓subK_5, ↓subK_6, ↓subK_13, ↓subK_con, ↓rtInt_int, ↓rtBool_bool, ↓rtStr_str, ↓rtPtr_ptr, ↓rtAgg_agg, ↓rtTup_tup, ↓rtCons_cons, ↓rtNil_nil, ↓rtOne_nils, ↓rtOne_pt, ↓rtOne_sl, ↓slenK_nils, ↓slenK_sl, ↓callK_some_, ↓condK_ift, ↓condK_iff, ↓chk_if, ↓joinB_, cells_agg, cells_int, cells_ptr, allOne_cons, allOne_nil, one_int, one_bool, one_str, one_nils, one_sl, one_ptr, Bool.and_true, Nat.add_eq, Nat.zero_add, Bool.not_true, Bool.not_false, v.oneB, v.oneL, v.oneM, ↓e1, ↓c1.types, ↓rd, ↓e2, ↓st, ↓ldK_is a3, hk1, h2]
  · intro h2
    unfold T40_0
    simp -implicitDefEqProofs only [↓nthK_zero, ↓nthK_succ, ↓subK_2, ↓subK_4, ↓subK_5, ↓subK_6, ↓subK_13, ↓subK_con, ↓rtInt_int, ↓rtBool_bool, ↓rtStr_str, ↓rtPtr_ptr, ↓rtAgg_agg, ↓rtTup_tup, ↓rtCons_cons, ↓rtNil_nil, ↓rtOne_nils, ↓rtOne_pt, ↓rtOne_sl, ↓slenK_nils, ↓slenK_sl, ↓callK_some_, ↓condK_ift, ↓condK_iff, ↓chk_if, ↓joinB_, cells_agg, cells_int, cells_ptr, allOne_cons, allOne_nil, one_int, one_bool, one_str, one_nils, one_sl, one_ptr, Bool.and_true, Nat.add_eq, Nat.zero_add, Bool.not_true, Bool.not_false, v.oneB, v.oneL, v.oneM, ↓e1, ↓c1.types, ↓rd, ↓e2, ↓st, ↓ldK_is a3, hk1, h2]
theorem elemInt_F (hS : SpSigned (D 68)) (hW : SpWithinT (D 67)) {v : Int} (hv : In64i v) {i nt : Nat} {tg : Nat → Nat × Nat} (ht : Tidy σ) (hc : Ck σ p nT ty nm nv rv tv []) (hi : i < nT) (hT : Tgs σ (ty i) nt tg) (hk : (ty i).kind = Int.ofNat 2) :
    Makes (F40 [] D (drawW [] D) N) [.ptr p 0, .int .i64 (Int.ofNat i), .agg (intC v)] σ (encW tg nt false nt (sOct v)) := by
  obtain ⟨σ3, b7, f3, a5, a7, h⟩ := elem_head (D := D) (W := drawW [] D) ht hc hi (Vc.int v) (by rw [hk]; rfl)
  have h := (h (J40_2 [] D (drawW [] D) N)).1 (by rw [hk]; rfl)
  obtain ⟨env, u, σ4, d1, d2, d3, d4⟩ := reg_int hS hW hv f3.tidy a5 a7 (hT.fr f3 ht)
  refine ⟨u, σ4, ?_, d3.mono f3.le, f3.trans d4 (fun _ _ h => h)⟩
  refine h.trans ?_
  show T40_2 [] D (drawW [] D) _ _ p 0 σ.next 0 b7 0 (ty i).kind true σ3 = _
  unfold T40_2
  rw [condK_true, d1]
  show getL env 6 _ = _
  rw [getL_of d2 (live_of d3.1.one)]
end
end
end Go.Proofs.YtpbdnlclihogfaaGreatDoor
set_option linter.all false
set_option maxRecDepth 100000
namespace Go.Proofs.YtpbdnlclihogfaaGreatDoor
open Go Go.Og
noncomputable section
/-- A list of parts that grows: their octets. -/
def Pts (σ0 σ : H) (v : V) (pls : List (List Int)) : Prop := ∃ pvs : List V, Dst σ 1 pls.length v pvs ∧ (∀ b, Names v b → σ0.next ≤ b) ∧ ∀ i, i < pls.length → ∃ u, pvs[i]? = some u ∧ By σ u (pls.getD i []) ∧ ∀ b, Names u b → ¬ Names v b
theorem Pts.nil (σ0 σ : H) : Pts σ0 σ .nils [] := ⟨[], Dst.nil σ 1, fun _ h => h.elim, fun i h => by simp at h⟩
theorem Pts.one {σ0 σ : H} {v : V} {pls : List (List Int)} (h : Pts σ0 σ v pls) : v.one = true := by obtain ⟨_, h, _⟩ := h; exact h.one
theorem Pts.fr {σ0 σ σ' : H} {v : V} {pls : List (List Int)} (h : Pts σ0 σ v pls) (f : Fr Nowhere σ σ') (ht : Tidy σ) : Pts σ0 σ' v pls := by
  obtain ⟨pvs, h1, h2, h3⟩ := h
  exact ⟨pvs, h1.fr f ht (fun _ _ h => h), h2, fun i hi => by
    obtain ⟨u, a, b, c⟩ := h3 i hi
    exact ⟨u, a, b.fr f ht, c⟩⟩
theorem Pts.row {σ0 σ : H} {v : V} {pls : List (List Int)} (h : Pts σ0 σ v pls) : ∃ pv : Nat → V, Row σ 1 pls.length v (fun k => [pv k]) ∧ ∀ k, k < pls.length → By σ (pv k) (pls.getD k []) := by
  obtain ⟨pvs, h1, h2, h3⟩ := h
  have hlen := h1.length
  have hg : ∀ k, k < pls.length → pvs[k]? = some (pvs.getD k .nils) := fun k hk => by
    rw [List.getD_eq_getElem?_getD, List.getElem?_eq_getElem (by omega)]; rfl
  refine ⟨fun k => pvs.getD k .nils, ⟨?_⟩, fun k hk => ?_⟩
  · have hc : ∀ k, k < pls.length → Cel pvs 1 k [pvs.getD k .nils] := fun k hk => by
      refine ⟨by omega, ?_⟩
      rw [Nat.mul_one]
      have hlt : k < pvs.length := by omega
      rw [List.drop_eq_getElem_cons hlt, List.take_succ_cons, List.take_zero, List.getD_eq_getElem?_getD, List.getElem?_eq_getElem hlt]
      rfl
    rcases h1 with (⟨h0, rfl, _⟩ | ⟨b, rfl, ha, _, _⟩) | ⟨b, rfl, ha, _⟩
    · exact .inl ⟨h0, rfl⟩
    · exact .inr ⟨b, _, pvs, rfl, ha, hc⟩
    · exact .inr ⟨b, _, pvs, rfl, ha, hc⟩
  · obtain ⟨u, a, b, _⟩ := h3 k hk
    rw [hg k hk] at a
    cases a
    exact b
theorem catN_getD : ∀ (pls : List (List Int)) (m i : Nat), i + m = pls.length → catN (fun k => pls.getD k []) m i = (pls.drop i).flatten
  | pls, 0, i, h => by simp [catN, List.drop_of_length_le (show pls.length ≤ i by omega)]
  | pls, m + 1, i, h => by
    have hlt : i < pls.length := by omega
    rw [catN, catN_getD pls m (i + 1) (by omega), List.drop_eq_getElem_cons hlt, List.flatten_cons, List.getD_eq_getElem?_getD, List.getElem?_eq_getElem hlt]
    rfl
theorem Pts.app {σ0 σ : H} {v u : V} {pls : List (List Int)} {l : List Int} {xb : Nat} (h : Pts σ0 σ v pls) (f0 : Fr Nowhere σ0 σ) (hu : By σ u l) (hun : ∀ b, Names u b → ¬ Names v b) (hx : Atc σ xb [u]) (hn : pls.length ≤ 10000) :
    ∃ v' σ', (∀ κ : V → H → Ans, appK [] 1 24 v (.sl xb 0 1 (.ex 1)) σ κ = κ v' σ') ∧ Pts σ0 σ' v' (pls ++ [l]) ∧ Fr Nowhere σ0 σ' ∧ Fr (Names v) σ σ' ∧ v'.one = true ∧ (∀ b, Names v' b → σ.next ≤ b) := by
  obtain ⟨pvs, h1, h2, h3⟩ := h
  obtain ⟨σ', g, a, n, f⟩ := app_some (E := []) (bytes := 24) (n := 1) h1 f0.tidy (x := .sl xb 0 1 (.ex 1)) (m := [u]) (.inr ⟨xb, 0, _, [u], rfl, hx, by simp, rfl⟩) (by decide) (by simp [allOne, hu.one]) (by
    unfold growable
    simp only [Bool.and_eq_true, Nat.ble_eq]; omega)
  have hlen := h1.length
  have keep : ∀ w m, By σ w m → (∀ b, Names w b → ¬ Names v b) → By σ' w m := fun w m hw hn => Src.fr hw f f0.tidy hn
  have fresh : ∀ w m, By σ w m → ∀ b, Names w b → ¬ Names (V.sl σ.next 0 (pls.length + 1) (.op 1)) b := fun w m hw b hb hb' => by
    have := Src.lt hw f0.tidy hb
    have hb' : b = σ.next := hb'
    omega
  refine ⟨_, σ', g, ⟨pvs ++ [u], ?_, fun b hb => by cases hb; exact f0.le, fun i hi => ?_⟩, f0.trans f (fun b hb hn => by have := h2 b hn; omega), f, rfl, fun b hb => by cases hb; exact Nat.le_refl _⟩
  · rw [List.length_append]
    exact .inl (.inr ⟨σ.next, rfl, a, by simp, by simp; omega⟩)
  · rw [List.length_append] at hi
    simp only [List.length_cons, List.length_nil] at hi
    by_cases hl : i < pls.length
    · obtain ⟨w, w1, w2, w3⟩ := h3 i hl
      refine ⟨w, by rw [List.getElem?_append_left (by omega)]; exact w1, ?_, ?_⟩
      · rw [List.getD_eq_getElem?_getD, List.getElem?_append_left hl, ← List.getD_eq_getElem?_getD]; exact keep w _ w2 w3
      · exact fresh w _ w2
    · have hi : i = pls.length := by omega
      subst hi
      refine ⟨u, by rw [List.getElem?_append_right (by omega)]; simp [hlen], ?_, ?_⟩
      · rw [List.getD_eq_getElem?_getD, List.getElem?_append_right (Nat.le_refl _)]; simpa using keep u _ hu hun
      · exact fresh u _ hu
section
variable {D : Den} {W : DrawFn} {N : Nat} {σ σ' : H} {p nT : Nat} {ty : Nat → Ty} {nm : BS} {nv rv tv : V} {rest : List V}
/-- A field that is there: its element comes behind. -/
theorem reg_field {σ0 : H} {b4 b5 b9 k j nf : Nat} {x : Ty} {fd : Nat → Fd} {v7 v13 : V} {v14 : Int} {pls : List (List Int)} {w : Vc} {l : List Int} (f0 : Fr Nowhere σ0 σ) (a4 : Atc σ b4 x.c) (a9 : Atc σ b9 w.c) (hb4 : ¬ Names v7 b4) (hb9 : ¬ Names v7 b9) (hb5 : True) (hf : Row σ 11 nf x.fields fun k => (fd k).c) (hfn : ∀ b, Names x.fields b → ¬ Names v7 b) (hk : k < nf) (hj : (fd k).type = Int.ofNat j) (hP : Pts σ0 σ v7 pls) (hwb : V.beq (.agg w.c) (.agg w.c) = true) (hxb : V.beq x.fields x.fields = true) (hn : pls.length ≤ 10000) (h13 : v13.live = true)
    (hE : ∀ σ1, Fr Nowhere σ σ1 → Makes (D 40) [.ptr p 0, .int .i64 (Int.ofNat j), .agg w.c] σ1 l) :
    ∃ env v' σ', drawW [] D G69_0 H69_0 [(0, .ptr p 0), (4, .ptr b4 0), (5, .ptr b5 0), (7, v7), (8, .int .i64 (Int.ofNat k)), (9, .ptr b9 0), (13, v13), (14, .int .i64 v14), (15, .int .i64 (Int.ofNat k))] σ = some (env, σ') ∧
      Go.Og.look env 0 = some (.ptr p 0) ∧ Go.Og.look env 4 = some (.ptr b4 0) ∧ Go.Og.look env 5 = some (.ptr b5 0) ∧ Go.Og.look env 7 = some v' ∧ Go.Og.look env 13 = some v13 ∧ Go.Og.look env 14 = some (.int .i64 v14) ∧ Go.Og.look env 15 = some (.int .i64 (Int.ofNat k)) ∧ Pts σ0 σ' v' (pls ++ [l]) ∧ Fr Nowhere σ0 σ' ∧ v'.live = true ∧ Fr (Names v7) σ σ' ∧ (∀ b, Names v' b → σ.next ≤ b) := by
  have ht := f0.tidy
  have fw : Fr Nowhere σ ⟨σ.next + 13, σ.bl⟩ := ⟨ht.wide 13, Nat.le_add_right _ _, fun _ _ _ => rfl⟩
  obtain ⟨u1, σ1, g1, h1, f1⟩ := hE ⟨σ.next + 13, σ.bl⟩ fw
  have le1 : σ.next + 13 ≤ σ1.next := f1.le
  have f01 : Fr Nowhere σ σ1 := f1.wide
  let σb : H := ⟨σ1.next, (σ.next + 10, .cells [u1]) :: σ1.bl⟩
  have fb1 : Fr Nowhere σ σb := ⟨fun c hc => by
    have hc : σ1.next ≤ c := hc
    show lookF ((σ.next + 10, _) :: σ1.bl) c = none
    rw [lookF_cons, if_neg (by simp only []; omega)]; exact f1.tidy c hc, f01.le, fun c hc _ => by
    show lookF ((σ.next + 10, _) :: σ1.bl) c = _
    rw [lookF_cons, if_neg (by simp only []; omega)]; exact f01.same c hc (fun h => h)⟩
  have ab : Atc σb (σ.next + 10) [u1] := by
    show lookF ((σ.next + 10, _) :: σ1.bl) _ = _
    rw [lookF_cons, if_pos rfl]
  have hun : ∀ b, Names u1 b → σ.next + 13 ≤ b := h1.2
  have hu : By σb u1 l := by
    have hs := h1.by_
    rcases hs with h | ⟨b, o, c, L, rfl, ha, hl, hm⟩
    · exact .inl h
    · have hb : σ.next + 13 ≤ b := hun b rfl
      refine .inr ⟨b, o, c, L, rfl, ?_, hl, hm⟩
      show lookF ((σ.next + 10, _) :: σ1.bl) b = _
      rw [lookF_cons, if_neg (by simp only []; omega)]; exact ha
  have v7lt : ∀ b, Names v7 b → b < σ.next := fun b hb => by
    obtain ⟨pvs, hd, _⟩ := hP
    exact hd.lt ht hb
  obtain ⟨v', σ2, g2, h2, f2, f2', o2, nw⟩ := (hP.fr fb1 ht).app (f0.trans fb1 (fun _ _ h => h)) hu (fun b hb hb' => by have := hun b hb; have := v7lt b hb'; omega) ab hn
  obtain ⟨fb, c, L, ef, aL, hc⟩ : ∃ fb c L, x.fields = .sl fb 0 nf c ∧ Atc σ fb L ∧ ∀ k, k < nf → Cel L 11 k (fd k).c := by
    rcases hf.is with ⟨h0, _⟩ | h
    · omega
    · exact h
  have nL : ¬ Names v7 fb := hfn fb (by rw [ef]; exact rfl)
  have gL : L[0 + k * 11 + 1]? = some (.int .i64 (Int.ofNat j)) := by
    have h3 : ((L.drop (k * 11)).take 11)[1]? = some (.int .i64 (Int.ofNat j)) := by rw [(hc k hk).2, ← hj]; rfl
    rw [List.getElem?_take, if_pos (by decide), List.getElem?_drop] at h3
    rw [Nat.zero_add]; exact h3
  have ia : ∀ e : Env, opv e (.tmp 26) = .sl fb 0 nf c → opv e (.tmp 27) = .int .i64 (Int.ofNat k) → aopP (.iaddrS 11 (.tmp 26) (.tmp 27)) e = some (.ptr fb (0 + k * 11)) := fun e h1 h2 => by
    unfold aopP
    simp only [h1, h2]
    first
      | rw [if_pos (by omega)]; rfl
      | rw [if_pos ⟨by omega, by omega⟩]; rfl
      | (simp; omega)
  have go : Goes [] D σ 13 0 (Names v7) G69_0 H69_0 ⟨[(0, .ptr p 0), (4, .ptr b4 0), (5, .ptr b5 0), (7, v7), (8, .int .i64 (Int.ofNat k)), (9, .ptr b9 0), (13, v13), (14, .int .i64 v14), (15, .int .i64 (Int.ofNat k))], σ.next + 13, [σ.bl], [], 0, []⟩ _ σ2 :=
    go_p v7 rfl (mov_of rfl (live_of hP.one)) <|
    go_p (.ptr p 0) rfl rfl <|
    go_p (.ptr b4 9) rfl rfl <|
    go_l (.sl fb 0 nf c) (go_start ht) rfl (old_ld1 (b := b4) (off := 9) rfl a4 (by rw [← ef]; rfl) ht hb4 (by rw [← ef]; exact hxb)) fun _ r1 =>
    go_p (.int .i64 (Int.ofNat k)) rfl rfl <|
    go_p (.ptr fb (0 + k * 11)) rfl (ia _ rfl rfl) <|
    go_p (.ptr fb (0 + k * 11 + 1)) rfl rfl <|
    go_l (.int .i64 (Int.ofNat j)) r1 rfl (old_ld1 (b := fb) (off := 0 + k * 11 + 1) rfl aL gL ht nL (beq_self _ rfl)) fun _ r2 =>
    go_l (.agg w.c) r2 rfl (old_ldn (b := b9) (off := 0) (m := 6) rfl a9 rfl rfl ht hb9 hwb) fun _ r3 =>
    go_k u1 r3 rfl (by decide) (S' := Nowhere) f1 (fun _ _ h => h.elim) (fun _ h _ _ => h) (call_of (vs := [.ptr p 0, .int .i64 (Int.ofNat j), .agg w.c]) rfl rfl g1) fun _ _ _ r4 =>
    go_a (.sl (σ.next + 10) 0 1 (.ex 1)) (.cells [u1]) 1024 r4 rfl (by decide) (by decide) (build1 rfl h1.1.one) fun _ r5 =>
    go_k v' r5 rfl (by decide) (S' := Names v7) f2' (fun _ _ h => h) (fun b h h1 _ => by have := v7lt b h; omega) (app_den rfl rfl g2) fun _ _ _ r6 =>
    go_p v' rfl (mov_of rfl (live_of o2)) <|
    go_nil r6
  obtain ⟨d1, d2⟩ := go_draw (ops := G69_0) go
  exact ⟨_, v', σ2, d1, rfl, rfl, rfl, rfl, rfl, rfl, rfl, h2, f2, live_of o2, d2, fun b hb => by have := nw b hb; have h : σ1.next ≤ b := this; omega⟩
end
end
end Go.Proofs.YtpbdnlclihogfaaGreatDoor
set_option linter.all false
set_option maxRecDepth 100000
namespace Go.Proofs.YtpbdnlclihogfaaGreatDoor
open Go Go.Og
noncomputable section
/-- The elements of those that are there. -/
def partsF (ab : Nat → Bool) (e : Nat → List Int) : Nat → Nat → List (List Int)
  | 0, _ => []
  | m + 1, i => if ab i = true then partsF ab e m (i + 1) else e i :: partsF ab e m (i + 1)
theorem partsF_length (ab : Nat → Bool) (e : Nat → List Int) : ∀ m i, (partsF ab e m i).length ≤ m
  | 0, _ => by simp [partsF]
  | m + 1, i => by
    have := partsF_length ab e m (i + 1)
    unfold partsF
    split
    · omega
    · simp only [List.length_cons]; omega
section
variable {D : Den} {N : Nat} {σ σ' : H} {p nT : Nat} {ty : Nat → Ty} {nm : BS} {nv rv tv : V} {rest : List V}
/-- A field, none or an integer, and its element. -/
def FieldE (D : Den) (σ0 : H) (p : Nat) (f : Fd) (v : Vc) (ab : Bool) (e : List Int) : Prop := (v = Vc.abs ∧ ab = true) ∨ (ab = false ∧ ∃ m j, v = Vc.int m ∧ f.type = Int.ofNat j ∧ ∀ σ1, Fr Nowhere σ0 σ1 → Makes (D 40) [.ptr p 0, .int .i64 (Int.ofNat j), .agg (Vc.int m).c] σ1 e)
theorem dfieldsLoop (hA : SpAbs (D 119)) {σ0 : H} {x : Ty} {nf qx qv : Nat} {fd : Nat → Fd} {g : Nat → Vc} {l : V} {ab : Nat → Bool} {e : Nat → List Int} (h0 : Tidy σ0) (hF : ∀ k, k < nf → FieldE D σ0 p (fd k) (g k) (ab k) (e k)) (hs : SeqTy σ0 x nf fd) (hl : Row σ0 6 nf l (fun k => (g k).c)) (hln : l.live = true) (hxb : V.beq x.fields x.fields = true) :
    ∀ (m n' k : Nat) (pls : List (List Int)) (v7 : V) (σ : H), k + m = nf → m < n' → Fr Nowhere σ0 σ → Atc σ qx x.c → (∀ b, Names v7 b → b ≠ qx) → qx < σ.next → Pts σ0 σ v7 pls → pls.length ≤ k →
      ∃ v7' σ', L69_2 [] D (drawW [] D) N n' (.ptr p 0) qx 0 qv 0 v7 l (Int.ofNat nf) (Int.ofNat k) σ = J69_1 [] D (drawW [] D) N qx 0 qv 0 v7' σ' ∧ Pts σ0 σ' v7' (pls ++ partsF ab e m k) ∧ Fr Nowhere σ0 σ' ∧ Atc σ' qx x.c := by
  intro m
  induction m with
  | zero =>
    intro n' k pls v7 σ hk hn' f ax hne hlt hP hpl
    obtain ⟨n', rfl⟩ : ∃ k, n' = k + 1 := ⟨n' - 1, by omega⟩
    refine ⟨v7, σ, ?_, by rw [show partsF ab e 0 k = [] from rfl, List.append_nil]; exact hP, f, ax⟩
    show T69_2 [] D (drawW [] D) _ _ (.ptr p 0) qx 0 qv 0 v7 l (Int.ofNat nf) (Int.ofNat k) σ = _
    unfold T69_2
    rw [ltF_nat, decide_eq_false (by omega), condK_false]
  | succ m ih =>
    intro n' k pls v7 σ hk hn' f ax hne hlt hP hpl
    obtain ⟨n', rfl⟩ : ∃ k, n' = k + 1 := ⟨n' - 1, by omega⟩
    have hkn : k < nf := by omega
    have sm := hs.small
    have rg : ∀ κ, iaddrSK 6 l (Int.ofNat k) (fun b o => ldnK [] σ b o 6 κ) = κ (g k).c := fun κ => (hl.fr0 f h0).all hkn κ
    have d1 : decide (k < nf) = true := decide_eq_true hkn
    obtain ⟨σ1, e1, f1, a1, n1⟩ := mk_new f.tidy [.int .i64 (Int.ofNat 0), .int .i64 (Int.ofNat 0), .nils, .nils, .int .i64 (Int.ofNat 0), .nils]
    obtain ⟨σ2, e2, f2, a2⟩ := mk_set f1.tidy a1 (g k).c
    have f02 : Fr Nowhere σ σ2 := f1.trans f2 (fun c hc h => by have h : c = σ.next := h; omega)
    have st : ∀ κ, stK 6 σ.next 0 (.agg (g k).c) σ1 κ = κ σ2 := fun κ => by
      rw [stK_at a1 (by
        unfold Vc.c
        simp only [cells_agg, cells_int, cells_ptr, allOne_cons, allOne_nil, one_int, one_bool, one_str, one_nils, one_sl, one_ptr, Bool.and_true, chk_t, nthK_zero, nthK_succ, subK_2, subK_4, subK_5, subK_6, subK_13, subK_con, rtInt_int, rtBool_bool, rtStr_str, rtPtr_ptr, rtAgg_agg, rtTup_tup, rtCons_cons, rtNil_nil, rtOne_nils, rtOne_pt, rtOne_sl, slenK_nils, slenK_sl, callK_some_, condK_true, condK_false, join_or, join_and, join_id, Nat.add_eq, Nat.zero_add, Bool.not_true, Bool.not_false, (g k).oneB, (g k).oneL, (g k).oneM]; rfl), ← e2]
      rfl
    have fx2 := f.trans f02 (fun _ _ h => h)
    have v7lt : ∀ b, Names v7 b → b < σ.next := fun b hb => by
      obtain ⟨pvs, hd, _⟩ := hP
      exact hd.lt f.tidy hb
    -- the step, either way
    have step : ∃ v7' σ3 pl', Fr Nowhere σ0 σ3 ∧ Atc σ3 qx x.c ∧ (∀ b, Names v7' b → b ≠ qx) ∧ qx < σ3.next ∧ Pts σ0 σ3 v7' pl' ∧ pl'.length ≤ k + 1 ∧ (pl' ++ partsF ab e m (k + 1) = pls ++ partsF ab e (m + 1) k) ∧
        ∀ K1 K3, T69_2 [] D (drawW [] D) K1 K3 (.ptr p 0) qx 0 qv 0 v7 l (Int.ofNat nf) (Int.ofNat k) σ = K3 (.ptr p 0) qx 0 qv 0 v7' l (Int.ofNat nf) (Int.ofNat k) σ3 := by
      rcases hF k hkn with ⟨hv, hab⟩ | ⟨hab, mm, j, hv, hj, hE⟩
      · obtain ⟨σ3, g3, f3⟩ := hA f02.tidy Vc.abs (nb := 0) (nl := 0) (nm := 0) Len.nils Len.nils Len.nils
        rw [show (eqF Vc.abs.k (Int.ofNat 0) && plainB (Int.ofNat 0) Vc.abs.k Vc.abs.n 0 0 Vc.abs.r 0) = true from rfl] at g3
        have f03 := f02.trans f3 (fun _ _ h => h)
        refine ⟨v7, σ3, pls, f.trans f03 (fun _ _ h => h), f03.at_ ax f.tidy (fun h => h), hne, by have := f03.le; omega, hP.fr f03 f.tidy, by omega, by rw [show partsF ab e (m + 1) k = if ab k = true then partsF ab e m (k + 1) else e k :: partsF ab e m (k + 1) from rfl, if_pos hab], fun K1 K3 => ?_⟩
        rw [hv] at rg st a2
        unfold Vc.c Vc.abs at rg st a2 g3
        unfold T69_2
        simp -implicitDefEqProofs only [↓nthK_zero, ↓nthK_succ, ↓subK_2, ↓subK_4, ↓subK_5, ↓subK_6, ↓subK_13, ↓subK_con, ↓rtInt_int, ↓rtBool_bool, ↓rtStr_str, ↓rtPtr_ptr, ↓rtAgg_agg, ↓rtTup_tup, ↓rtCons_cons, ↓rtNil_nil, ↓rtOne_nils, ↓rtOne_pt, ↓rtOne_sl, ↓slenK_nils, ↓slenK_sl, ↓callK_some_, ↓condK_ift, ↓condK_iff, ↓chk_if, ↓joinB_, cells_agg, cells_int, cells_ptr, allOne_cons, allOne_nil, one_int, one_bool, one_str, one_nils, one_sl, one_ptr, Bool.and_true, Nat.add_eq, Nat.zero_add, Bool.not_true, Bool.not_false, eqF_nat, ltF_nat, leF_nat, Nat.reduceEqDiff, Nat.reduceLT, Nat.reduceLeDiff, decide_false, decide_true, Bool.false_or, Bool.true_or, Bool.or_false, Bool.or_true, Bool.false_and, Bool.true_and, Bool.and_false, d1, ↓rg, ↓e1, ↓st, ↓ldnK_is a2, ↓g3]
      · obtain ⟨σ3, g3, f3⟩ := hA f02.tidy (Vc.int mm) (nb := 0) (nl := 0) (nm := 0) Len.nils Len.nils Len.nils
        rw [show (eqF (Vc.int mm).k (Int.ofNat 0) && plainB (Int.ofNat 0) (Vc.int mm).k (Vc.int mm).n 0 0 (Vc.int mm).r 0) = false from rfl] at g3
        have f03 := f02.trans f3 (fun _ _ h => h)
        have fx3 := f.trans f03 (fun _ _ h => h)
        have a9 : Atc σ3 σ.next (Vc.int mm).c := f3.at_ (by rw [← hv]; exact a2) f02.tidy (fun h => h)
        have le3 := f03.le
        obtain ⟨env, v', σ4, q0, l0, l4, l5, l7, l13, l14, l15, hP', f4, o4, f4', nw⟩ := reg_field (σ := σ3) (b5 := qv) (b9 := σ.next) (k := k) (v13 := l) (v14 := Int.ofNat nf) (w := Vc.int mm) fx3 (f03.at_ ax f.tidy (fun h => h)) a9 (fun h => hne _ h rfl) (fun h => by have := v7lt _ h; omega) trivial (hs.row.fr0 fx3 h0) (fun b hb hb' => by
          obtain ⟨pvs, hd, hnew, _⟩ := hP
          have := hnew b hb'
          rcases hs.row.is with ⟨_, e⟩ | ⟨b', c, L, e, ha, _⟩
          · rw [e] at hb; exact hb
          · rw [e] at hb
            have hb : b = b' := hb
            have := ha.lt h0
            omega) hkn hj (hP.fr f03 f.tidy) (beq_self _ rfl) hxb (by omega) hln (fun σ9 f9 => hE σ9 (fx3.trans f9 (fun _ _ h => h)))
        have le4 := f4.le
        refine ⟨v', σ4, pls ++ [e k], f4, f4'.at_ (f03.at_ ax f.tidy (fun h => h)) f03.tidy (fun h => hne _ h rfl), fun b hb => ?_, by have := f4'.le; omega, hP', by simp; omega, by rw [show partsF ab e (m + 1) k = if ab k = true then partsF ab e m (k + 1) else e k :: partsF ab e m (k + 1) from rfl, if_neg (by rw [hab]; simp)]; simp, fun K1 K3 => ?_⟩
        · have := nw b hb; omega
        · rw [hv] at rg st a2
          unfold Vc.c Vc.int at rg st a2 g3
          have p0 : ∀ κ, getL env 0 κ = κ (.ptr p 0) := fun κ => getL_of l0 rfl
          have p4 : ∀ κ, getL env 4 κ = κ (.ptr qx 0) := fun κ => getL_of l4 rfl
          have p5 : ∀ κ, getL env 5 κ = κ (.ptr qv 0) := fun κ => getL_of l5 rfl
          have p7 : ∀ κ, getL env 7 κ = κ v' := fun κ => getL_of l7 o4
          have p13 : ∀ κ, getL env 13 κ = κ l := fun κ => getL_of l13 hln
          have p14 : ∀ κ, getL env 14 κ = κ (.int .i64 (Int.ofNat nf)) := fun κ => getL_of l14 rfl
          have p15 : ∀ κ, getL env 15 κ = κ (.int .i64 (Int.ofNat k)) := fun κ => getL_of l15 rfl
          have q0' : ∀ κ, gdrawK (drawW [] D G69_0 H69_0 [(0, .ptr p 0), (4, .ptr qx 0), (5, .ptr qv 0), (7, v7), (8, .int .i64 (Int.ofNat k)), (9, .ptr σ.next 0), (13, l), (14, .int .i64 (Int.ofNat nf)), (15, .int .i64 (Int.ofNat k))] σ3) κ = κ env σ4 := fun κ => by rw [q0]; rfl
          unfold T69_2
          simp -implicitDefEqProofs only [↓nthK_zero, ↓nthK_succ, ↓subK_2, ↓subK_4, ↓subK_5, ↓subK_6, ↓subK_13, ↓subK_con, ↓rtInt_int, ↓rtBool_bool, ↓rtStr_str, ↓rtPtr_ptr, ↓rtAgg_agg, ↓rtTup_tup, ↓rtCons_cons, ↓rtNil_nil, ↓rtOne_nils, ↓rtOne_pt, ↓rtOne_sl, ↓slenK_nils, ↓slenK_sl, ↓callK_some_, ↓condK_ift, ↓condK_iff, ↓chk_if, ↓joinB_, cells_agg, cells_int, cells_ptr, allOne_cons, allOne_nil, one_int, one_bool, one_str, one_nils, one_sl, one_ptr, Bool.and_true, Nat.add_eq, Nat.zero_add, Bool.not_true, Bool.not_false, eqF_nat, ltF_nat, leF_nat, Nat.reduceEqDiff, Nat.reduceLT, Nat.reduceLeDiff, decide_false, decide_true, Bool.false_or, Bool.true_or, Bool.or_false, Bool.or_true, Bool.false_and, Bool.true_and, Bool.and_false, d1, ↓rg, ↓e1, ↓st, ↓ldnK_is a2, ↓g3, ↓q0', ↓p0, ↓p4, ↓p5, ↓p7, ↓p13, ↓p14, ↓p15]
    obtain ⟨v7', σ3, pl', s1, s2, s3, s4, s5, s6, s7, s8⟩ := step
    obtain ⟨v8, σ4, h1, h2, h3, h4⟩ := ih n' (k + 1) pl' v7' σ3 (by omega) (by omega) s1 s2 s3 s4 s5 s6
    refine ⟨v8, σ4, ?_, by rw [← s7]; exact h2, h3, h4⟩
    refine (s8 _ _).trans ?_
    show T69_3 [] D (drawW [] D) (L69_2 [] D (drawW [] D) N n') (.ptr p 0) qx 0 qv 0 v7' l (Int.ofNat nf) (Int.ofNat k) σ3 = _
    unfold T69_3
    rw [addF_nat (by omega)]
    exact h1
end
end
end Go.Proofs.YtpbdnlclihogfaaGreatDoor
set_option linter.all false
set_option maxRecDepth 100000
namespace Go.Proofs.YtpbdnlclihogfaaGreatDoor
open Go Go.Og
noncomputable section
section
variable {D : Den} {N : Nat} {σ σ' : H} {p nT : Nat} {ty : Nat → Ty} {nm : BS} {nv rv tv : V} {rest : List V}
def SpDf (F : List V → H → Ans) (D : Den) : Prop := ∀ {σ : H} {p : Nat} {x : Ty} {nf : Nat} {fd : Nat → Fd} {g : Nat → Vc} {l : V} {hl : l.one = true} {ab : Nat → Bool} {e : Nat → List Int}, Tidy σ → SeqTy σ x nf fd → Row σ 6 nf l (fun k => (g k).c) → V.beq x.fields x.fields = true →
  (∀ k, k < nf → FieldE D σ p (fd k) (g k) (ab k) (e k)) → ∃ v7 σ', F [.ptr p 0, .agg x.c, .agg (Vc.seq l hl).c] σ = some (v7, σ') ∧ Pts σ σ' v7 (partsF ab e nf 0) ∧ Fr Nowhere σ σ'
theorem dfields_F (hA : SpAbs (D 119)) (hN : 1000 < N) : SpDf (F69 [] D (drawW [] D) N) D := by
  intro σ p x nf fd g l hl ab e ht hs hr hxb hF
  obtain ⟨σ1, e1, f1, a1, n1⟩ := mk_new ht x.c
  obtain ⟨σ2, e2, f2, a2, n2⟩ := mk_new f1.tidy (Vc.seq l hl).c
  have f02 := f1.trans f2 (fun _ _ h => h)
  have a12 := f2.at_ a1 f1.tidy (fun h => h)
  have sm := hs.small
  obtain ⟨v7, σ3, h3, hP, f3, ax⟩ := dfieldsLoop (N := N) (qx := σ.next) (qv := σ1.next) (ab := ab) (e := e) hA f02.tidy (fun k hk => (hF k hk).imp id (fun ⟨a, m, j, b, c, h⟩ => ⟨a, m, j, b, c, fun σ9 f9 => h σ9 (f02.trans f9 (fun _ _ h => h))⟩)) (hs.fr f02 ht) (hr.fr0 f02 ht) (live_of hl) hxb nf N 0 [] .nils σ2 (by omega) (by omega) (Fr.refl f02.tidy) a12 (fun _ h => h.elim) (by omega) (Pts.nil σ2 σ2) (by simp)
  rw [List.nil_append] at hP
  have f03 := f02.trans f3 (fun _ _ h => h)
  have av : Atc σ3 σ1.next [.int .i64 (Int.ofNat 7), .int .i64 (Int.ofNat 0), .nils, l, .int .i64 (Int.ofNat 0), .nils] := f3.at_ a2 f2.tidy (fun h => h)
  refine ⟨v7, σ3, ?_, ?_, f03⟩
  · have hln := hr.len.2
    have e2' : newB σ1 (.cells [.int .i64 (Int.ofNat 7), .int .i64 (Int.ofNat 0), .nils, l, .int .i64 (Int.ofNat 0), .nils]) = σ2 := e2
    have a2' : Atc σ2 σ1.next [.int .i64 (Int.ofNat 7), .int .i64 (Int.ofNat 0), .nils, l, .int .i64 (Int.ofNat 0), .nils] := a2
    have key : ∀ K, T69_0 [] D (drawW [] D) K (.ptr p 0) x.kind x.tags x.has x.hasLow x.hasHigh x.conMore x.low x.high x.items x.fields x.root x.more x.of_ (Int.ofNat 7) (Int.ofNat 0) .nils l (Int.ofNat 0) .nils σ = K (.ptr p 0) σ.next 0 σ1.next 0 .nils l (Int.ofNat nf) (Int.ofNat 0) σ2 := by
      intro K
      unfold T69_0
      unfold Ty.c at e1
      simp -implicitDefEqProofs only [↓nthK_zero, ↓nthK_succ, ↓subK_2, ↓subK_4, ↓subK_5, ↓subK_6, ↓subK_13, ↓subK_con, ↓rtInt_int, ↓rtBool_bool, ↓rtStr_str, ↓rtPtr_ptr, ↓rtAgg_agg, ↓rtTup_tup, ↓rtCons_cons, ↓rtNil_nil, ↓rtOne_nils, ↓rtOne_pt, ↓rtOne_sl, ↓slenK_nils, ↓slenK_sl, ↓callK_some_, ↓condK_ift, ↓condK_iff, ↓chk_if, ↓joinB_, cells_agg, cells_int, cells_ptr, allOne_cons, allOne_nil, one_int, one_bool, one_str, one_nils, one_sl, one_ptr, Bool.and_true, Nat.add_eq, Nat.zero_add, Bool.not_true, Bool.not_false, x.oneT, x.oneI, x.oneF, hl, ↓e1, ↓e2', ↓ldK_is a2', ↓hln]
    obtain ⟨N, rfl⟩ : ∃ k, N = k + 1 := ⟨N - 1, by omega⟩
    have k1 : ∀ K, T69_1 [] D (drawW [] D) K σ.next 0 σ1.next 0 v7 σ3 = K σ.next 0 v7 .nils (Int.ofNat 0) (Int.ofNat 0) σ3 := by
      intro K
      unfold T69_1
      simp -implicitDefEqProofs only [↓nthK_zero, ↓nthK_succ, ↓subK_2, ↓subK_4, ↓subK_5, ↓subK_6, ↓subK_13, ↓subK_con, ↓rtInt_int, ↓rtBool_bool, ↓rtStr_str, ↓rtPtr_ptr, ↓rtAgg_agg, ↓rtTup_tup, ↓rtCons_cons, ↓rtNil_nil, ↓rtOne_nils, ↓rtOne_pt, ↓rtOne_sl, ↓slenK_nils, ↓slenK_sl, ↓callK_some_, ↓condK_ift, ↓condK_iff, ↓chk_if, ↓joinB_, cells_agg, cells_int, cells_ptr, allOne_cons, allOne_nil, one_int, one_bool, one_str, one_nils, one_sl, one_ptr, Bool.and_true, Nat.add_eq, Nat.zero_add, Bool.not_true, Bool.not_false, ↓ldK_is av]
    have k5 : ∀ K1 K2, T69_5 [] D (drawW [] D) K1 K2 σ.next 0 v7 .nils (Int.ofNat 0) (Int.ofNat 0) σ3 = K1 σ.next 0 v7 σ3 := by
      intro K1 K2
      unfold T69_5
      rw [ltF_nat, decide_eq_false (by omega), condK_false]
    have k4 : ∀ K, T69_4 [] D (drawW [] D) K σ.next 0 v7 σ3 = K v7 σ3 := by
      intro K
      unfold T69_4
      have hk := hs.kind
      unfold Ty.c at ax
      simp -implicitDefEqProofs only [↓nthK_zero, ↓nthK_succ, ↓subK_2, ↓subK_4, ↓subK_5, ↓subK_6, ↓subK_13, ↓subK_con, ↓rtInt_int, ↓rtBool_bool, ↓rtStr_str, ↓rtPtr_ptr, ↓rtAgg_agg, ↓rtTup_tup, ↓rtCons_cons, ↓rtNil_nil, ↓rtOne_nils, ↓rtOne_pt, ↓rtOne_sl, ↓slenK_nils, ↓slenK_sl, ↓callK_some_, ↓condK_ift, ↓condK_iff, ↓chk_if, ↓joinB_, cells_agg, cells_int, cells_ptr, allOne_cons, allOne_nil, one_int, one_bool, one_str, one_nils, one_sl, one_ptr, Bool.and_true, Nat.add_eq, Nat.zero_add, Bool.not_true, Bool.not_false, eqF_nat, ltF_nat, leF_nat, Nat.reduceEqDiff, Nat.reduceLT, Nat.reduceLeDiff, decide_false, decide_true, Bool.false_or, Bool.true_or, Bool.or_false, Bool.or_true, Bool.false_and, Bool.true_and, Bool.and_false, ↓ldK_is ax, hk]
    exact (key _).trans (h3.trans ((k1 _).trans ((k5 _ _).trans ((k4 _).trans rfl))))
  · obtain ⟨pvs, q1, q2, q3⟩ := hP
    exact ⟨pvs, q1, fun b hb => Nat.le_trans f02.le (q2 b hb), q3⟩
/-- The region of a sequence's element. -/
theorem reg_seq {D' : Den} (hDf : SpDf (D 69) D') (hW : SpWithinT (D 67)) {x : Ty} {nt nf : Nat} {tg : Nat → Nat × Nat} {fd : Nat → Fd} {g : Nat → Vc} {l : V} {hl : l.one = true} {ab : Nat → Bool} {e : Nat → List Int} (ht : Tidy σ) {b5 b7 : Nat} (a5 : Atc σ b5 (Vc.seq l hl).c) (a7 : Atc σ b7 x.c) (hT : Tgs σ x nt tg) (hs : SeqTy σ x nf fd) (hr : Row σ 6 nf l fun k => (g k).c) (hxb : V.beq x.fields x.fields = true)
    (hF : ∀ k, k < nf → FieldE D' σ p (fd k) (g k) (ab k) (e k)) (hvb : V.beq (.agg (Vc.seq l hl).c) (.agg (Vc.seq l hl).c) = true) (hxc : V.beq (.agg x.c) (.agg x.c) = true) (hlen : (partsF ab e nf 0).flatten.length + 2 * nt < 128) :
    ∃ env u σ', drawW [] D G40_2 H40_2 [(0, .ptr p 0), (5, .ptr b5 0), (7, .ptr b7 0)] σ = some (env, σ') ∧ Go.Og.look env 6 = some u ∧ Nb σ σ' u (encW tg nt true nt (partsF ab e nf 0).flatten) ∧ Fr Nowhere σ σ' := by
  have fw : Fr Nowhere σ ⟨σ.next + 8, σ.bl⟩ := ⟨ht.wide 8, Nat.le_add_right _ _, fun _ _ _ => rfl⟩
  obtain ⟨v7, σ1, g1, hP, f1⟩ := hDf (σ := ⟨σ.next + 8, σ.bl⟩) (p := p) (hl := hl) fw.tidy (hs.fr fw ht) (hr.fr0 fw ht) hxb (fun k hk => (hF k hk).imp id (fun ⟨a, m, j, b, c, h⟩ => ⟨a, m, j, b, c, fun σ9 f9 => h σ9 (fw.trans f9 (fun _ _ h => h))⟩))
  have f01 := f1.wide
  obtain ⟨pv, hrow, hby⟩ := hP.row
  have pl := partsF_length ab e nf 0
  have sm := hs.small
  have ec : catN (fun k => (partsF ab e nf 0).getD k []) (partsF ab e nf 0).length 0 = (partsF ab e nf 0).flatten := by
    rw [catN_getD _ _ _ (by omega), List.drop_zero]
  obtain ⟨u2, σ2, g2, h2, f2⟩ := hW (σ := σ1) f1.tidy (hT.row.fr0 f01 ht) hT.ok hrow hby (by rw [ec]; exact hlen) (by omega) true
  rw [ec] at h2
  have go : Goes [] D σ 8 0 Nowhere G40_2 H40_2 ⟨[(0, .ptr p 0), (5, .ptr b5 0), (7, .ptr b7 0)], σ.next + 8, [σ.bl], [], 0, []⟩ _ σ2 :=
    go_p (.ptr b7 1) rfl rfl <|
    go_l x.tags (go_start ht) rfl (old_ld1 (b := b7) (off := 1) rfl a7 rfl ht (fun h => h) hT.beq) fun _ r1 =>
    go_p (.ptr p 0) rfl rfl <|
    go_l (.agg x.c) r1 rfl (old_ldn (b := b7) (off := 0) (m := 13) rfl a7 rfl rfl ht (fun h => h) hxc) fun _ r2 =>
    go_l (.agg (Vc.seq l hl).c) r2 rfl (old_ldn (b := b5) (off := 0) (m := 6) rfl a5 rfl rfl ht (fun h => h) hvb) fun _ r3 =>
    go_k v7 r3 rfl (by decide) f1 (fun _ _ h => h) (fun _ h _ _ => h) (call_of (vs := [.ptr p 0, .agg x.c, .agg (Vc.seq l hl).c]) rfl rfl g1) fun _ _ _ r4 =>
    go_k u2 r4 rfl (by decide) f2 (fun _ _ h => h) (fun _ h _ _ => h) (call_of (vs := [x.tags, .bool true, v7]) rfl (by rw [List.all_cons, live_of x.oneT, List.all_cons, List.all_cons, live_of hP.one]; rfl) g2) fun _ _ _ r5 =>
    go_p u2 rfl (mov_of rfl (live_of h2.1.one)) <|
    go_nil r5
  obtain ⟨d1, d2⟩ := go_draw (ops := G40_2) go
  exact ⟨_, u2, σ2, d1, rfl, h2.mono f01.le, d2⟩
theorem elemSeq_F {D' : Den} (hDf : SpDf (D 69) D') (hW : SpWithinT (D 67)) {i nt nf : Nat} {tg : Nat → Nat × Nat} {fd : Nat → Fd} {g : Nat → Vc} {l : V} {hl : l.one = true} {ab : Nat → Bool} {e : Nat → List Int} (ht : Tidy σ) (hc : Ck σ p nT ty nm nv rv tv []) (hi : i < nT) (hT : Tgs σ (ty i) nt tg) (hs : SeqTy σ (ty i) nf fd) (hr : Row σ 6 nf l fun k => (g k).c) (hxb : V.beq (ty i).fields (ty i).fields = true)
    (hF : ∀ k, k < nf → FieldE D' σ p (fd k) (g k) (ab k) (e k)) (hvb : V.beq (.agg (Vc.seq l hl).c) (.agg (Vc.seq l hl).c) = true) (hxc : V.beq (.agg (ty i).c) (.agg (ty i).c) = true) (hlen : (partsF ab e nf 0).flatten.length + 2 * nt < 128) :
    Makes (F40 [] D (drawW [] D) N) [.ptr p 0, .int .i64 (Int.ofNat i), .agg (Vc.seq l hl).c] σ (encW tg nt true nt (partsF ab e nf 0).flatten) := by
  have hk := hs.kind
  obtain ⟨σ3, b7, f3, a5, a7, h⟩ := elem_head (D := D) (W := drawW [] D) ht hc hi (Vc.seq l hl) (by rw [hk]; rfl)
  have h := (h (J40_2 [] D (drawW [] D) N)).2 (by rw [hk]; rfl)
  obtain ⟨env, u, σ4, d1, d2, d3, d4⟩ := reg_seq (p := p) hDf hW f3.tidy a5 a7 (hT.fr f3 ht) (hs.fr f3 ht) (hr.fr0 f3 ht) hxb (fun k hk => (hF k hk).imp id (fun ⟨a, m, j, b, c, h⟩ => ⟨a, m, j, b, c, fun σ9 f9 => h σ9 (f3.trans f9 (fun _ _ h => h))⟩)) hvb hxc hlen
  refine ⟨u, σ4, ?_, d3.mono f3.le, f3.trans d4 (fun _ _ h => h)⟩
  refine h.trans ?_
  have k2 : ∀ K4 K5, T40_2 [] D (drawW [] D) K4 K5 p 0 σ.next 0 b7 0 (ty i).kind (eqF (ty i).kind (Int.ofNat 3)) σ3 = K5 p 0 σ.next 0 b7 0 true σ3 := by
    intro K4 K5
    unfold T40_2
    simp -implicitDefEqProofs only [↓nthK_zero, ↓nthK_succ, ↓subK_2, ↓subK_4, ↓subK_5, ↓subK_6, ↓subK_13, ↓subK_con, ↓rtInt_int, ↓rtBool_bool, ↓rtStr_str, ↓rtPtr_ptr, ↓rtAgg_agg, ↓rtTup_tup, ↓rtCons_cons, ↓rtNil_nil, ↓rtOne_nils, ↓rtOne_pt, ↓rtOne_sl, ↓slenK_nils, ↓slenK_sl, ↓callK_some_, ↓condK_ift, ↓condK_iff, ↓chk_if, ↓joinB_, cells_agg, cells_int, cells_ptr, allOne_cons, allOne_nil, one_int, one_bool, one_str, one_nils, one_sl, one_ptr, Bool.and_true, Nat.add_eq, Nat.zero_add, Bool.not_true, Bool.not_false, eqF_nat, ltF_nat, leF_nat, Nat.reduceEqDiff, Nat.reduceLT, Nat.reduceLeDiff, decide_false, decide_true, Bool.false_or, Bool.true_or, Bool.or_false, Bool.or_true, Bool.false_and, Bool.true_and, Bool.and_false, hk]
  refine (k2 _ _).trans ?_
  show T40_5 [] D (drawW [] D) _ p 0 σ.next 0 b7 0 true σ3 = _
  unfold T40_5
  rw [condK_true, d1]
  show getL env 6 _ = _
  rw [getL_of d2 (live_of d3.1.one)]
theorem elemList_F (hW : SpWithinT (D 67)) {i j nt n : Nat} {tg : Nat → Nat × Nat} {g : Nat → Vc} {l : V} {hl : l.one = true} {e : Nat → List Int} (ht : Tidy σ) (hc : Ck σ p nT ty nm nv rv tv []) (hi : i < nT) (hT : Tgs σ (ty i) nt tg) (hk : (ty i).kind = Int.ofNat 10) (hof : (ty i).of_ = Int.ofNat j) (hr : Row σ 6 n l fun k => (g k).c) (hn : n ≤ 1000) (hN : 1000 < N)
    (hF : ∀ k, k < n → ∀ σ1, Fr Nowhere σ σ1 → Makes (D 40) [.ptr p 0, .int .i64 (Int.ofNat j), .agg (g k).c] σ1 (e k)) (hlen : (partsF (fun _ => false) e n 0).flatten.length + 2 * nt < 128) :
    Makes (F40 [] D (drawW [] D) N) [.ptr p 0, .int .i64 (Int.ofNat i), .agg (Vc.lst l hl).c] σ (encW tg nt true nt (partsF (fun _ => false) e n 0).flatten) := by
  obtain ⟨σ3, b7, f3, a5, a7, h⟩ := elem_head (D := D) (W := drawW [] D) ht hc hi (Vc.lst l hl) (by rw [hk]; rfl)
  have h := (h (J40_2 [] D (drawW [] D) N)).2 (by rw [hk]; rfl)
  have loop : ∀ (m n' k : Nat) (pls : List (List Int)) (v8 : V) (σ1 : H), k + m = n → m < n' → Fr Nowhere σ3 σ1 → Pts σ3 σ1 v8 pls → pls.length ≤ k →
      ∃ v8' σ2, L40_4 [] D (drawW [] D) N n' p 0 b7 0 v8 l (Int.ofNat n) (Int.ofNat k) σ1 = J40_3 [] D (drawW [] D) N b7 0 v8' σ2 ∧ Pts σ3 σ2 v8' (pls ++ partsF (fun _ => false) e m k) ∧ Fr Nowhere σ3 σ2 := by
    intro m
    induction m with
    | zero =>
      intro n' k pls v8 σ1 hk' hn' f hP hpl
      obtain ⟨n', rfl⟩ : ∃ k, n' = k + 1 := ⟨n' - 1, by omega⟩
      refine ⟨v8, σ1, ?_, by rw [show partsF (fun _ => false) e 0 k = [] from rfl, List.append_nil]; exact hP, f⟩
      show T40_4 [] D (drawW [] D) _ _ p 0 b7 0 v8 l (Int.ofNat n) (Int.ofNat k) σ1 = _
      unfold T40_4
      rw [ltF_nat, decide_eq_false (by omega), condK_false]
    | succ m ih =>
      intro n' k pls v8 σ1 hk' hn' f hP hpl
      obtain ⟨n', rfl⟩ : ∃ k, n' = k + 1 := ⟨n' - 1, by omega⟩
      have hkn : k < n := by omega
      have f31 := f3.trans f (fun _ _ h => h)
      have rg : ∀ κ, iaddrSK 6 l (Int.ofNat k) (fun b o => ldnK [] σ1 b o 6 κ) = κ (g k).c := fun κ => (hr.fr0 f31 ht).all hkn κ
      have d1 : decide (k < n) = true := decide_eq_true hkn
      have a71 := f.at_ a7 f3.tidy (fun h => h)
      obtain ⟨u, σ2, g2, h2, f2⟩ := hF k hkn σ1 f31
      obtain ⟨σ4, e4, f4, a4, n4⟩ := mk_new f2.tidy [u]
      have f24 := f2.trans f4 (fun _ _ h => h)
      have f34 := f.trans f24 (fun _ _ h => h)
      have v8lt : ∀ b, Names v8 b → b < σ1.next := fun b hb => by
        obtain ⟨pvs, hd, _⟩ := hP
        exact hd.lt f.tidy hb
      obtain ⟨v', σ5, g5, hP5, f5, f5', o5, nw⟩ := (hP.fr f24 f.tidy).app f34 (h2.fr f4 f2.tidy).by_ (fun b hb hb' => by have := h2.2 b hb; have := v8lt b hb'; omega) a4 (by omega)
      obtain ⟨v8', σ6, g6, hP6, f6⟩ := ih n' (k + 1) (pls ++ [e k]) v' σ5 (by omega) (by omega) f5 hP5 (by simp; omega)
      refine ⟨v8', σ6, ?_, by rw [show partsF (fun _ => false) e (m + 1) k = e k :: partsF (fun _ => false) e m (k + 1) from rfl]; simpa using hP6, f6⟩
      have key : ∀ K1 K2, T40_4 [] D (drawW [] D) K1 K2 p 0 b7 0 v8 l (Int.ofNat n) (Int.ofNat k) σ1 = K2 p 0 b7 0 v' l (Int.ofNat n) (Int.ofNat (k + 1)) σ5 := by
        intro K1 K2
        unfold T40_4
        unfold Vc.c at rg g2
        unfold Ty.c at a71
        simp -implicitDefEqProofs only [↓nthK_zero, ↓nthK_succ, ↓subK_2, ↓subK_4, ↓subK_5, ↓subK_6, ↓subK_13, ↓subK_con, ↓rtInt_int, ↓rtBool_bool, ↓rtStr_str, ↓rtPtr_ptr, ↓rtAgg_agg, ↓rtTup_tup, ↓rtCons_cons, ↓rtNil_nil, ↓rtOne_nils, ↓rtOne_pt, ↓rtOne_sl, ↓slenK_nils, ↓slenK_sl, ↓callK_some_, ↓condK_ift, ↓condK_iff, ↓chk_if, ↓joinB_, cells_agg, cells_int, cells_ptr, allOne_cons, allOne_nil, one_int, one_bool, one_str, one_nils, one_sl, one_ptr, Bool.and_true, Nat.add_eq, Nat.zero_add, Bool.not_true, Bool.not_false, eqF_nat, ltF_nat, leF_nat, Nat.reduceEqDiff, Nat.reduceLT, Nat.reduceLeDiff, decide_false, decide_true, Bool.false_or, Bool.true_or, Bool.or_false, Bool.or_true, Bool.false_and, Bool.true_and, Bool.and_false, d1, ↓rg, (g k).oneB, (g k).oneL, (g k).oneM, ↓ldK_is a71, hof, ↓g2, ↓fill1 h2.1.one, h2.1.one, ↓e4, ↓g5, ↓rtOne_of h2.1.one, ↓rtOne_of o5, addF_nat (show k + 1 ≤ 9223372036854775807 by omega)]
      exact (key _ _).trans g6
  obtain ⟨v8, σ4, g4, hP, f4⟩ := loop n N 0 [] .nils σ3 (by omega) (by omega) (Fr.refl f3.tidy) (Pts.nil σ3 σ3) (by simp)
  rw [List.nil_append] at hP
  obtain ⟨pv, hrow, hby⟩ := hP.row
  have pl := partsF_length (fun _ => false) e n 0
  have ec : catN (fun k => (partsF (fun _ => false) e n 0).getD k []) (partsF (fun _ => false) e n 0).length 0 = (partsF (fun _ => false) e n 0).flatten := by
    rw [catN_getD _ _ _ (by omega), List.drop_zero]
  have f34 := f3.trans f4 (fun _ _ h => h)
  obtain ⟨u, σ5, g5, h5, f5⟩ := hW (σ := σ4) f4.tidy (hT.row.fr0 f34 ht) hT.ok hrow hby (by rw [ec]; exact hlen) (by omega) true
  rw [ec] at h5
  refine ⟨u, σ5, ?_, h5.mono f34.le, f34.trans f5 (fun _ _ h => h)⟩
  refine h.trans ?_
  have hln := hr.len.2
  have a5' : Atc σ3 σ.next [.int .i64 (Int.ofNat 10), .int .i64 (Int.ofNat 0), .nils, l, .int .i64 (Int.ofNat 0), .nils] := a5
  have k2 : ∀ K4 K5, T40_2 [] D (drawW [] D) K4 K5 p 0 σ.next 0 b7 0 (ty i).kind (eqF (ty i).kind (Int.ofNat 3)) σ3 = K4 p 0 b7 0 .nils l (Int.ofNat n) (Int.ofNat 0) σ3 := by
    intro K4 K5
    unfold T40_2
    simp -implicitDefEqProofs only [↓nthK_zero, ↓nthK_succ, ↓subK_2, ↓subK_4, ↓subK_5, ↓subK_6, ↓subK_13, ↓subK_con, ↓rtInt_int, ↓rtBool_bool, ↓rtStr_str, ↓rtPtr_ptr, ↓rtAgg_agg, ↓rtTup_tup, ↓rtCons_cons, ↓rtNil_nil, ↓rtOne_nils, ↓rtOne_pt, ↓rtOne_sl, ↓slenK_nils, ↓slenK_sl, ↓callK_some_, ↓condK_ift, ↓condK_iff, ↓chk_if, ↓joinB_, cells_agg, cells_int, cells_ptr, allOne_cons, allOne_nil, one_int, one_bool, one_str, one_nils, one_sl, one_ptr, Bool.and_true, Nat.add_eq, Nat.zero_add, Bool.not_true, Bool.not_false, eqF_nat, ltF_nat, leF_nat, Nat.reduceEqDiff, Nat.reduceLT, Nat.reduceLeDiff, decide_false, decide_true, Bool.false_or, Bool.true_or, Bool.or_false, Bool.or_true, Bool.false_and, Bool.true_and, Bool.and_false, hk, ↓ldK_is a5', ↓hln]
  have k3 : J40_3 [] D (drawW [] D) N b7 0 v8 σ4 = some (u, σ5) := by
    show T40_3 [] D (drawW [] D) b7 0 v8 σ4 = _
    unfold T40_3
    have a7' := f4.at_ a7 f3.tidy (fun h => h)
    unfold Ty.c at a7'
    simp -implicitDefEqProofs only [↓nthK_zero, ↓nthK_succ, ↓subK_2, ↓subK_4, ↓subK_5, ↓subK_6, ↓subK_13, ↓subK_con, ↓rtInt_int, ↓rtBool_bool, ↓rtStr_str, ↓rtPtr_ptr, ↓rtAgg_agg, ↓rtTup_tup, ↓rtCons_cons, ↓rtNil_nil, ↓rtOne_nils, ↓rtOne_pt, ↓rtOne_sl, ↓slenK_nils, ↓slenK_sl, ↓callK_some_, ↓condK_ift, ↓condK_iff, ↓chk_if, ↓joinB_, cells_agg, cells_int, cells_ptr, allOne_cons, allOne_nil, one_int, one_bool, one_str, one_nils, one_sl, one_ptr, Bool.and_true, Nat.add_eq, Nat.zero_add, Bool.not_true, Bool.not_false, ↓ldK_is a7', ↓g5, ↓rtOne_of h5.1.one]
  exact (k2 _ _).trans (g4.trans k3)
/-- Encode of a value that fits. -/
theorem enc_F {i : Nat} {v : Vc} {l : List Int} (ht : Tidy σ) (h1 : nv.one = true) (h2 : rv.one = true) (h3 : tv.one = true) (hr : Row σ 13 nT tv fun i => (ty i).c) (hlen : l.length ≤ 70000)
    (hF : ∀ σ1, Fr Nowhere σ σ1 → ∃ σ2, D 38 [.agg [.str nm, nv, rv, tv], .int .i64 (Int.ofNat i), .agg v.c] σ1 = some (.bool true, σ2) ∧ Fr Nowhere σ1 σ2)
    (hR : ∀ σ1, Fr Nowhere σ σ1 → ∃ σ2, D 39 [.agg v.c, .int .i64 (Int.ofNat 1)] σ1 = some (.bool true, σ2) ∧ Fr Nowhere σ1 σ2)
    (hE : ∀ (σ1 : H) (p : Nat), Fr Nowhere σ σ1 → Ck σ1 p nT ty nm nv rv tv [] → Makes (D 40) [.ptr p 0, .int .i64 (Int.ofNat i), .agg v.c] σ1 l) :
    ∃ u σ', F18 [] D (drawW [] D) N [.agg [.str nm, nv, rv, tv], .int .i64 (Int.ofNat i), .agg v.c] σ = some (.tup [u, .int .i64 (Int.ofNat 0)], σ') ∧ Nb σ σ' u l ∧ Fr Nowhere σ σ' := by
  obtain ⟨σ1, e1, f1, a1, n1⟩ := mk_new ht [.str nm, nv, rv, tv]
  obtain ⟨σ2, e2, f2, a2, n2⟩ := mk_new f1.tidy v.c
  have f02 := f1.trans f2 (fun _ _ h => h)
  obtain ⟨σ3, g3, f3⟩ := hF σ2 f02
  have f03 := f02.trans f3 (fun _ _ h => h)
  obtain ⟨σ4, g4, f4⟩ := hR σ3 f03
  have f04 := f03.trans f4 (fun _ _ h => h)
  obtain ⟨σ5, e5, f5, a5, n5⟩ := mk_new f4.tidy [.str nm, nv, rv, tv]
  have f05 := f04.trans f5 (fun _ _ h => h)
  have c5 : Ck σ5 σ4.next nT ty nm nv rv tv [] := ⟨a5, h1, h2, h3, hr.fr0 f05 ht, fun b hb e => by
    subst e
    have lo := f04.le
    rcases hr.is with ⟨_, rfl⟩ | ⟨b, c, L, rfl, ha, _⟩
    · exact hb
    · have := ha.lt ht
      have hb : σ4.next = b := hb
      omega⟩
  obtain ⟨u, σ6, g6, h6, f6⟩ := hE σ5 σ4.next f05 c5
  have a12 := f2.at_ a1 f1.tidy (fun h => h)
  have a14 := f4.at_ (f3.at_ a12 f2.tidy (fun h => h)) f3.tidy (fun h => h)
  have a23 := f3.at_ a2 f2.tidy (fun h => h)
  have a25 := f5.at_ (f4.at_ a23 f3.tidy (fun h => h)) f4.tidy (fun h => h)
  have d1 : decide (70000 < l.length) = false := decide_eq_false (by omega)
  have hln := h6.by_.slen
  refine ⟨u, σ6, ?_, h6.mono f05.le, f05.trans f6 (fun _ _ h => h)⟩
  unfold Vc.c at e2 a2 a23 a25 g3 g4 g6
  show T18_0 [] D (drawW [] D) nm nv rv tv (Int.ofNat i) v.k v.n v.b v.l v.r v.m σ = _
  unfold T18_0
  simp -implicitDefEqProofs only [↓nthK_zero, ↓nthK_succ, ↓subK_2, ↓subK_4, ↓subK_5, ↓subK_6, ↓subK_13, ↓subK_con, ↓rtInt_int, ↓rtBool_bool, ↓rtStr_str, ↓rtPtr_ptr, ↓rtAgg_agg, ↓rtTup_tup, ↓rtCons_cons, ↓rtNil_nil, ↓rtOne_nils, ↓rtOne_pt, ↓rtOne_sl, ↓slenK_nils, ↓slenK_sl, ↓callK_some_, ↓condK_ift, ↓condK_iff, ↓chk_if, ↓joinB_, cells_agg, cells_int, cells_ptr, allOne_cons, allOne_nil, one_int, one_bool, one_str, one_nils, one_sl, one_ptr, Bool.and_true, Nat.add_eq, Nat.zero_add, Bool.not_true, Bool.not_false, eqF_nat, ltF_nat, leF_nat, Nat.reduceEqDiff, Nat.reduceLT, Nat.reduceLeDiff, decide_false, decide_true, Bool.false_or, Bool.true_or, Bool.or_false, Bool.or_true, Bool.false_and, Bool.true_and, Bool.and_false, h1, h2, h3, v.oneB, v.oneL, v.oneM, ↓e1, ↓e2, ↓ldnK_is a12, ↓ldnK_is a2, ↓g3, ↓ldnK_is a23, ↓g4, ↓ldnK_is a14, ↓e5, ↓ldnK_is a25, ↓g6, ↓rtOne_of h6.1.one, ↓hln, d1]
end
end
end Go.Proofs.YtpbdnlclihogfaaGreatDoor
set_option linter.all false
set_option maxRecDepth 100000
namespace Go.Proofs.YtpbdnlclihogfaaGreatDoor
open Go Go.Og
noncomputable section
def flatR (m : Nat) (g : Nat → List V) : List V := ((List.range m).map g).flatten
theorem flatR_succ (m : Nat) (g : Nat → List V) : flatR (m + 1) g = flatR m g ++ g m := by
  unfold flatR; rw [List.range_succ, List.map_append, List.flatten_append]; simp
theorem flatR_length {esz : Nat} {g : Nat → List V} (hg : ∀ k, (g k).length = esz) : ∀ m, (flatR m g).length = m * esz
  | 0 => by simp [flatR]
  | m + 1 => by rw [flatR_succ, List.length_append, flatR_length hg m, hg, Nat.add_mul, Nat.one_mul]
theorem flatR_cel {esz : Nat} {g : Nat → List V} (hg : ∀ k, (g k).length = esz) : ∀ {m k : Nat}, k < m → Cel (flatR m g) esz k (g k)
  | m + 1, k, h => by
    have hl := flatR_length hg (m + 1)
    refine ⟨by rw [hl]; have := Nat.mul_le_mul_right esz (show k + 1 ≤ m + 1 by omega); rw [Nat.add_mul, Nat.one_mul] at this; exact this, ?_⟩
    rw [flatR_succ]
    by_cases hk : k < m
    · have ih := flatR_cel hg hk
      have h1 := ih.1
      rw [List.drop_append_of_le_length (by omega), List.take_append_of_le_length (by rw [List.length_drop]; omega)]
      exact ih.2
    · obtain rfl : k = m := by omega
      rw [List.drop_append, List.drop_of_length_le (by rw [flatR_length hg]; exact Nat.le_refl _), flatR_length hg, Nat.sub_self, List.nil_append, List.drop_zero, ← hg k, List.take_length]
theorem Row.flat {σ : H} {b m esz : Nat} {c : Cap} {g : Nat → List V} (hg : ∀ k, (g k).length = esz) (h : Atc σ b (flatR m g)) : Row σ esz m (.sl b 0 m c) g := ⟨.inr ⟨b, c, _, rfl, h, fun _ hk => flatR_cel hg hk⟩⟩
def tyI (k : Int) (tg : Nat) (fv : V) (h : fv.one = true) (root of_ : Int) : Ty := ⟨k, .sl tg 0 1 (.ex 1), false, false, false, false, Int.ofNat 0, Int.ofNat 0, .nils, fv, root, false, of_, rfl, rfl, h⟩
def tyG (n : Nat) (fv : V) (h : fv.one = true) (tg : Nat → Nat) (i : Nat) : Ty :=
  if i = 0 then tyI (Int.ofNat 7) (tg i) fv h (Int.ofNat n) (Int.ofNat 0)
  else if i ≤ n then tyI (Int.ofNat 2) (tg i) .nils rfl (Int.ofNat 0) (Int.ofNat 0)
  else if i = n + 1 then tyI (Int.ofNat 10) (tg i) .nils rfl (Int.ofNat 0) (Int.ofNat (n + 2))
  else tyI (Int.ofNat 2) (tg i) .nils rfl (Int.ofNat 0) (Int.ofNat 0)
def fdG (nmK : Nat → BS) (k : Nat) : Fd := ⟨nmK k, Int.ofNat (k + 1), true, false, Int.ofNat 0, Int.ofNat 0, .nils, .nils, Int.ofNat 0, .nils, Int.ofNat 0, rfl, rfl, rfl⟩
def tagG (n i : Nat) : Nat × Nat := if i = 0 then (0, 16) else if i ≤ n then (2, i - 1) else if i = n + 1 then (0, 16) else (0, 2)
structure TabD (σ : H) (n tb rb : Nat) (fv : V) (h : fv.one = true) (tg : Nat → Nat) (nmK : Nat → BS) : Prop where
  types : Atc σ tb (flatR (n + 3) fun i => (tyG n fv h tg i).c)
  roots : Atc σ rb [.int .i64 (Int.ofNat 0), .int .i64 (Int.ofNat (n + 1))]
  fields : (n = 0 ∧ fv = .nils) ∨ ∃ fb, fv = .sl fb 0 n (.op 11) ∧ Atc σ fb (flatR n fun k => (fdG nmK k).c)
  tags : ∀ i, i < n + 3 → Atc σ (tg i) (tagC (tagG n i))
  small : n ≤ 10
section
variable {σ σ' : H} {n tb rb : Nat} {fv : V} {h : fv.one = true} {tg : Nat → Nat} {nmK : Nat → BS}
theorem TabD.fr (t : TabD σ n tb rb fv h tg nmK) (f : Fr Nowhere σ σ') (ht : Tidy σ) : TabD σ' n tb rb fv h tg nmK :=
  ⟨f.at_ t.types ht (fun h => h), f.at_ t.roots ht (fun h => h), t.fields.imp id (fun ⟨fb, a, b⟩ => ⟨fb, a, f.at_ b ht (fun h => h)⟩), fun i hi => f.at_ (t.tags i hi) ht (fun h => h), t.small⟩
theorem TabD.row (t : TabD σ n tb rb fv h tg nmK) {c : Cap} : Row σ 13 (n + 3) (.sl tb 0 (n + 3) c) fun i => (tyG n fv h tg i).c := Row.flat (fun _ => rfl) t.types
theorem TabD.frow (t : TabD σ n tb rb fv h tg nmK) : Row σ 11 n fv fun k => (fdG nmK k).c := by
  rcases t.fields with ⟨h0, rfl⟩ | ⟨fb, rfl, ha⟩
  · exact ⟨.inl ⟨h0, rfl⟩⟩
  · exact Row.flat (fun _ => rfl) ha
theorem tyG_i {k : Nat} (hk : k < n) : tyG n fv h tg (k + 1) = tyI (Int.ofNat 2) (tg (k + 1)) .nils rfl (Int.ofNat 0) (Int.ofNat 0) := by
  unfold tyG; rw [if_neg (by omega), if_pos (by omega)]
theorem tyG_l : tyG n fv h tg (n + 1) = tyI (Int.ofNat 10) (tg (n + 1)) .nils rfl (Int.ofNat 0) (Int.ofNat (n + 2)) := by
  unfold tyG; rw [if_neg (by omega), if_neg (by omega), if_pos rfl]
theorem tyG_m : tyG n fv h tg (n + 2) = tyI (Int.ofNat 2) (tg (n + 2)) .nils rfl (Int.ofNat 0) (Int.ofNat 0) := by
  unfold tyG; rw [if_neg (by omega), if_neg (by omega), if_neg (by omega)]
theorem TabD.seq (t : TabD σ n tb rb fv h tg nmK) : SeqTy σ (tyG n fv h tg 0) n (fdG nmK) := ⟨rfl, t.frow, rfl, by have := t.small; omega⟩
theorem tagG_ok (n i : Nat) (hn : n ≤ 10) : Tg (tagG n i) := by
  unfold tagG Tg
  split
  · exact ⟨.inl rfl, by decide⟩
  · split
    · exact ⟨.inr rfl, by show i - 1 < 31; omega⟩
    · split
      · exact ⟨.inl rfl, by decide⟩
      · exact ⟨.inl rfl, by decide⟩
theorem TabD.tgs (t : TabD σ n tb rb fv h tg nmK) {i : Nat} (hi : i < n + 3) : Tgs σ (tyG n fv h tg i) 1 (fun _ => tagG n i) := by
  have e : (tyG n fv h tg i).tags = .sl (tg i) 0 1 (.ex 1) := by
    unfold tyG
    split
    · rfl
    · split
      · rfl
      · split
        · rfl
        · rfl
  refine ⟨?_, fun j _ => tagG_ok n i t.small, by decide⟩
  rw [e]
  refine ⟨.inr ⟨tg i, _, _, rfl, t.tags i hi, fun k hk => ?_⟩⟩
  obtain rfl : k = 0 := by omega
  exact ⟨Nat.le_refl _, rfl⟩
theorem TabD.fb (t : TabD σ n tb rb fv h tg nmK) : V.beq fv fv = true := by
  rcases t.fields with ⟨_, rfl⟩ | ⟨fb, rfl, _⟩
  · rfl
  · exact beq_self _ rfl
theorem TabD.cb (t : TabD σ n tb rb fv h tg nmK) : V.beq (.agg (tyG n fv h tg 0).c) (.agg (tyG n fv h tg 0).c) = true := by
  rcases t.fields with ⟨_, rfl⟩ | ⟨fb, rfl, _⟩
  · exact beq_self _ rfl
  · exact beq_self _ rfl
end
end
end Go.Proofs.YtpbdnlclihogfaaGreatDoor
set_option linter.all false
set_option maxRecDepth 100000
namespace Go.Proofs.YtpbdnlclihogfaaGreatDoor
open Go Go.Og
noncomputable section
def nmF : Nat → BS := fun k => [BS.mk 2 12390, BS.mk 2 12646, BS.mk 2 12902, BS.mk 2 13158, BS.mk 2 13414, BS.mk 2 13670, BS.mk 2 13926, BS.mk 2 14182, BS.mk 2 14438, BS.mk 2 14694].getD k ⟨0, 0⟩
def tg0 (τ : Nat → Nat) : Nat → Nat := fun i => τ ([224, 270, 287].getD i 0)
theorem tab0 {τ : Nat → Nat} {σ : H} (h : Has eT0.bl1 τ σ) : TabD σ 0 (τ 299) (τ 301) .nils rfl (tg0 τ) nmF :=
  ⟨(h 299 _ rfl).trans (by kernel_rfl), (h 301 _ rfl).trans (by kernel_rfl), .inl ⟨rfl, rfl⟩, fun i hi => by
    match i, hi with
    | 0, _ => exact (h 224 _ rfl).trans (by kernel_rfl)
    | 1, _ => exact (h 270 _ rfl).trans (by kernel_rfl)
    | 2, _ => exact (h 287 _ rfl).trans (by kernel_rfl)
    | i + 3, hi => omega, by decide⟩
def tg1 (τ : Nat → Nat) : Nat → Nat := fun i => τ ([261, 293, 348, 365].getD i 0)
theorem tab1 {τ : Nat → Nat} {σ : H} (h : Has eT1.bl1 τ σ) : TabD σ 1 (τ 377) (τ 379) (.sl (τ 295) 0 1 (.op 11)) rfl (tg1 τ) nmF :=
  ⟨(h 377 _ rfl).trans (by kernel_rfl), (h 379 _ rfl).trans (by kernel_rfl), .inr ⟨τ 295, rfl, (h 295 _ rfl).trans (by kernel_rfl)⟩, fun i hi => by
    match i, hi with
    | 0, _ => exact (h 261 _ rfl).trans (by kernel_rfl)
    | 1, _ => exact (h 293 _ rfl).trans (by kernel_rfl)
    | 2, _ => exact (h 348 _ rfl).trans (by kernel_rfl)
    | 3, _ => exact (h 365 _ rfl).trans (by kernel_rfl)
    | i + 4, hi => omega, by decide⟩
def tg2 (τ : Nat → Nat) : Nat → Nat := fun i => τ ([301, 333, 354, 447, 464].getD i 0)
theorem tab2 {τ : Nat → Nat} {σ : H} (h : Has eT2.bl1 τ σ) : TabD σ 2 (τ 476) (τ 478) (.sl (τ 356) 0 2 (.op 11)) rfl (tg2 τ) nmF :=
  ⟨(h 476 _ rfl).trans (by kernel_rfl), (h 478 _ rfl).trans (by kernel_rfl), .inr ⟨τ 356, rfl, (h 356 _ rfl).trans (by kernel_rfl)⟩, fun i hi => by
    match i, hi with
    | 0, _ => exact (h 301 _ rfl).trans (by kernel_rfl)
    | 1, _ => exact (h 333 _ rfl).trans (by kernel_rfl)
    | 2, _ => exact (h 354 _ rfl).trans (by kernel_rfl)
    | 3, _ => exact (h 447 _ rfl).trans (by kernel_rfl)
    | 4, _ => exact (h 464 _ rfl).trans (by kernel_rfl)
    | i + 5, hi => omega, by decide⟩
def tg3 (τ : Nat → Nat) : Nat → Nat := fun i => τ ([341, 373, 394, 415, 564, 581].getD i 0)
theorem tab3 {τ : Nat → Nat} {σ : H} (h : Has eT3.bl1 τ σ) : TabD σ 3 (τ 593) (τ 595) (.sl (τ 417) 0 3 (.op 11)) rfl (tg3 τ) nmF :=
  ⟨(h 593 _ rfl).trans (by kernel_rfl), (h 595 _ rfl).trans (by kernel_rfl), .inr ⟨τ 417, rfl, (h 417 _ rfl).trans (by kernel_rfl)⟩, fun i hi => by
    match i, hi with
    | 0, _ => exact (h 341 _ rfl).trans (by kernel_rfl)
    | 1, _ => exact (h 373 _ rfl).trans (by kernel_rfl)
    | 2, _ => exact (h 394 _ rfl).trans (by kernel_rfl)
    | 3, _ => exact (h 415 _ rfl).trans (by kernel_rfl)
    | 4, _ => exact (h 564 _ rfl).trans (by kernel_rfl)
    | 5, _ => exact (h 581 _ rfl).trans (by kernel_rfl)
    | i + 6, hi => omega, by decide⟩
def tg4 (τ : Nat → Nat) : Nat → Nat := fun i => τ ([381, 413, 434, 455, 476, 699, 716].getD i 0)
theorem tab4 {τ : Nat → Nat} {σ : H} (h : Has eT4.bl1 τ σ) : TabD σ 4 (τ 728) (τ 730) (.sl (τ 478) 0 4 (.op 11)) rfl (tg4 τ) nmF :=
  ⟨(h 728 _ rfl).trans (by kernel_rfl), (h 730 _ rfl).trans (by kernel_rfl), .inr ⟨τ 478, rfl, (h 478 _ rfl).trans (by kernel_rfl)⟩, fun i hi => by
    match i, hi with
    | 0, _ => exact (h 381 _ rfl).trans (by kernel_rfl)
    | 1, _ => exact (h 413 _ rfl).trans (by kernel_rfl)
    | 2, _ => exact (h 434 _ rfl).trans (by kernel_rfl)
    | 3, _ => exact (h 455 _ rfl).trans (by kernel_rfl)
    | 4, _ => exact (h 476 _ rfl).trans (by kernel_rfl)
    | 5, _ => exact (h 699 _ rfl).trans (by kernel_rfl)
    | 6, _ => exact (h 716 _ rfl).trans (by kernel_rfl)
    | i + 7, hi => omega, by decide⟩
def tg5 (τ : Nat → Nat) : Nat → Nat := fun i => τ ([421, 453, 474, 495, 516, 537, 852, 869].getD i 0)
theorem tab5 {τ : Nat → Nat} {σ : H} (h : Has eT5.bl1 τ σ) : TabD σ 5 (τ 881) (τ 883) (.sl (τ 539) 0 5 (.op 11)) rfl (tg5 τ) nmF :=
  ⟨(h 881 _ rfl).trans (by kernel_rfl), (h 883 _ rfl).trans (by kernel_rfl), .inr ⟨τ 539, rfl, (h 539 _ rfl).trans (by kernel_rfl)⟩, fun i hi => by
    match i, hi with
    | 0, _ => exact (h 421 _ rfl).trans (by kernel_rfl)
    | 1, _ => exact (h 453 _ rfl).trans (by kernel_rfl)
    | 2, _ => exact (h 474 _ rfl).trans (by kernel_rfl)
    | 3, _ => exact (h 495 _ rfl).trans (by kernel_rfl)
    | 4, _ => exact (h 516 _ rfl).trans (by kernel_rfl)
    | 5, _ => exact (h 537 _ rfl).trans (by kernel_rfl)
    | 6, _ => exact (h 852 _ rfl).trans (by kernel_rfl)
    | 7, _ => exact (h 869 _ rfl).trans (by kernel_rfl)
    | i + 8, hi => omega, by decide⟩
def tg6 (τ : Nat → Nat) : Nat → Nat := fun i => τ ([461, 493, 514, 535, 556, 577, 598, 1023, 1040].getD i 0)
theorem tab6 {τ : Nat → Nat} {σ : H} (h : Has eT6.bl1 τ σ) : TabD σ 6 (τ 1052) (τ 1054) (.sl (τ 600) 0 6 (.op 11)) rfl (tg6 τ) nmF :=
  ⟨(h 1052 _ rfl).trans (by kernel_rfl), (h 1054 _ rfl).trans (by kernel_rfl), .inr ⟨τ 600, rfl, (h 600 _ rfl).trans (by kernel_rfl)⟩, fun i hi => by
    match i, hi with
    | 0, _ => exact (h 461 _ rfl).trans (by kernel_rfl)
    | 1, _ => exact (h 493 _ rfl).trans (by kernel_rfl)
    | 2, _ => exact (h 514 _ rfl).trans (by kernel_rfl)
    | 3, _ => exact (h 535 _ rfl).trans (by kernel_rfl)
    | 4, _ => exact (h 556 _ rfl).trans (by kernel_rfl)
    | 5, _ => exact (h 577 _ rfl).trans (by kernel_rfl)
    | 6, _ => exact (h 598 _ rfl).trans (by kernel_rfl)
    | 7, _ => exact (h 1023 _ rfl).trans (by kernel_rfl)
    | 8, _ => exact (h 1040 _ rfl).trans (by kernel_rfl)
    | i + 9, hi => omega, by decide⟩
def tg7 (τ : Nat → Nat) : Nat → Nat := fun i => τ ([501, 533, 554, 575, 596, 617, 638, 659, 1212, 1229].getD i 0)
theorem tab7 {τ : Nat → Nat} {σ : H} (h : Has eT7.bl1 τ σ) : TabD σ 7 (τ 1241) (τ 1243) (.sl (τ 661) 0 7 (.op 11)) rfl (tg7 τ) nmF :=
  ⟨(h 1241 _ rfl).trans (by kernel_rfl), (h 1243 _ rfl).trans (by kernel_rfl), .inr ⟨τ 661, rfl, (h 661 _ rfl).trans (by kernel_rfl)⟩, fun i hi => by
    match i, hi with
    | 0, _ => exact (h 501 _ rfl).trans (by kernel_rfl)
    | 1, _ => exact (h 533 _ rfl).trans (by kernel_rfl)
    | 2, _ => exact (h 554 _ rfl).trans (by kernel_rfl)
    | 3, _ => exact (h 575 _ rfl).trans (by kernel_rfl)
    | 4, _ => exact (h 596 _ rfl).trans (by kernel_rfl)
    | 5, _ => exact (h 617 _ rfl).trans (by kernel_rfl)
    | 6, _ => exact (h 638 _ rfl).trans (by kernel_rfl)
    | 7, _ => exact (h 659 _ rfl).trans (by kernel_rfl)
    | 8, _ => exact (h 1212 _ rfl).trans (by kernel_rfl)
    | 9, _ => exact (h 1229 _ rfl).trans (by kernel_rfl)
    | i + 10, hi => omega, by decide⟩
def tg8 (τ : Nat → Nat) : Nat → Nat := fun i => τ ([541, 573, 594, 615, 636, 657, 678, 699, 720, 1419, 1436].getD i 0)
theorem tab8 {τ : Nat → Nat} {σ : H} (h : Has eT8.bl1 τ σ) : TabD σ 8 (τ 1448) (τ 1450) (.sl (τ 722) 0 8 (.op 11)) rfl (tg8 τ) nmF :=
  ⟨(h 1448 _ rfl).trans (by kernel_rfl), (h 1450 _ rfl).trans (by kernel_rfl), .inr ⟨τ 722, rfl, (h 722 _ rfl).trans (by kernel_rfl)⟩, fun i hi => by
    match i, hi with
    | 0, _ => exact (h 541 _ rfl).trans (by kernel_rfl)
    | 1, _ => exact (h 573 _ rfl).trans (by kernel_rfl)
    | 2, _ => exact (h 594 _ rfl).trans (by kernel_rfl)
    | 3, _ => exact (h 615 _ rfl).trans (by kernel_rfl)
    | 4, _ => exact (h 636 _ rfl).trans (by kernel_rfl)
    | 5, _ => exact (h 657 _ rfl).trans (by kernel_rfl)
    | 6, _ => exact (h 678 _ rfl).trans (by kernel_rfl)
    | 7, _ => exact (h 699 _ rfl).trans (by kernel_rfl)
    | 8, _ => exact (h 720 _ rfl).trans (by kernel_rfl)
    | 9, _ => exact (h 1419 _ rfl).trans (by kernel_rfl)
    | 10, _ => exact (h 1436 _ rfl).trans (by kernel_rfl)
    | i + 11, hi => omega, by decide⟩
def tg9 (τ : Nat → Nat) : Nat → Nat := fun i => τ ([581, 613, 634, 655, 676, 697, 718, 739, 760, 781, 1644, 1661].getD i 0)
theorem tab9 {τ : Nat → Nat} {σ : H} (h : Has eT9.bl1 τ σ) : TabD σ 9 (τ 1673) (τ 1675) (.sl (τ 783) 0 9 (.op 11)) rfl (tg9 τ) nmF :=
  ⟨(h 1673 _ rfl).trans (by kernel_rfl), (h 1675 _ rfl).trans (by kernel_rfl), .inr ⟨τ 783, rfl, (h 783 _ rfl).trans (by kernel_rfl)⟩, fun i hi => by
    match i, hi with
    | 0, _ => exact (h 581 _ rfl).trans (by kernel_rfl)
    | 1, _ => exact (h 613 _ rfl).trans (by kernel_rfl)
    | 2, _ => exact (h 634 _ rfl).trans (by kernel_rfl)
    | 3, _ => exact (h 655 _ rfl).trans (by kernel_rfl)
    | 4, _ => exact (h 676 _ rfl).trans (by kernel_rfl)
    | 5, _ => exact (h 697 _ rfl).trans (by kernel_rfl)
    | 6, _ => exact (h 718 _ rfl).trans (by kernel_rfl)
    | 7, _ => exact (h 739 _ rfl).trans (by kernel_rfl)
    | 8, _ => exact (h 760 _ rfl).trans (by kernel_rfl)
    | 9, _ => exact (h 781 _ rfl).trans (by kernel_rfl)
    | 10, _ => exact (h 1644 _ rfl).trans (by kernel_rfl)
    | 11, _ => exact (h 1661 _ rfl).trans (by kernel_rfl)
    | i + 12, hi => omega, by decide⟩
def tg10 (τ : Nat → Nat) : Nat → Nat := fun i => τ ([621, 653, 674, 695, 716, 737, 758, 779, 800, 821, 842, 1887, 1904].getD i 0)
theorem tab10 {τ : Nat → Nat} {σ : H} (h : Has eT10.bl1 τ σ) : TabD σ 10 (τ 1916) (τ 1918) (.sl (τ 844) 0 10 (.op 11)) rfl (tg10 τ) nmF :=
  ⟨(h 1916 _ rfl).trans (by kernel_rfl), (h 1918 _ rfl).trans (by kernel_rfl), .inr ⟨τ 844, rfl, (h 844 _ rfl).trans (by kernel_rfl)⟩, fun i hi => by
    match i, hi with
    | 0, _ => exact (h 621 _ rfl).trans (by kernel_rfl)
    | 1, _ => exact (h 653 _ rfl).trans (by kernel_rfl)
    | 2, _ => exact (h 674 _ rfl).trans (by kernel_rfl)
    | 3, _ => exact (h 695 _ rfl).trans (by kernel_rfl)
    | 4, _ => exact (h 716 _ rfl).trans (by kernel_rfl)
    | 5, _ => exact (h 737 _ rfl).trans (by kernel_rfl)
    | 6, _ => exact (h 758 _ rfl).trans (by kernel_rfl)
    | 7, _ => exact (h 779 _ rfl).trans (by kernel_rfl)
    | 8, _ => exact (h 800 _ rfl).trans (by kernel_rfl)
    | 9, _ => exact (h 821 _ rfl).trans (by kernel_rfl)
    | 10, _ => exact (h 842 _ rfl).trans (by kernel_rfl)
    | 11, _ => exact (h 1887 _ rfl).trans (by kernel_rfl)
    | 12, _ => exact (h 1904 _ rfl).trans (by kernel_rfl)
    | i + 13, hi => omega, by decide⟩
def es : List Few := [eT0, eT1, eT2, eT3, eT4, eT5, eT6, eT7, eT8, eT9, eT10]
def lenE (e : Few) : Nat := match e.args with
  | [.str s] => s.len
  | _ => 0
def txt (n : Nat) : BS := match (es.getD n eT0).args with
  | [.str s] => s
  | _ => ⟨0, 0⟩
theorem es_len : ∀ e ∈ es, ∀ n, n < 11 → lenE e = (txt n).len → e = es.getD n eT0 := by
  intro e he n hn
  unfold es at he
  simp only [List.mem_cons, List.not_mem_nil, or_false] at he
  have : n = 0 ∨ n = 1 ∨ n = 2 ∨ n = 3 ∨ n = 4 ∨ n = 5 ∨ n = 6 ∨ n = 7 ∨ n = 8 ∨ n = 9 ∨ n = 10 := by omega
  rcases he with rfl | rfl | rfl | rfl | rfl | rfl | rfl | rfl | rfl | rfl | rfl <;> rcases this with rfl | rfl | rfl | rfl | rfl | rfl | rfl | rfl | rfl | rfl | rfl <;> intro hl <;> first | rfl | (exfalso; revert hl; decide +kernel)
/-- What Table answers of these texts. -/
def TabAns (n : Nat) (v : V) (σ : H) : Prop := ∃ nb rb tb fv h tg, v = .tup [.agg [.str ⟨1, 77⟩, .sl nb 0 2 (.op 1), .sl rb 0 2 (.op 1), .sl tb 0 (n + 3) (.op 13)], .bool true] ∧ TabD σ n tb rb fv h tg nmF
theorem eT0_still : eT0.still = true := by kernel_rfl
theorem ans0 {ρ : Nat → Nat} {σ : H} {args : List V} (hf : eT0.Fits ρ args σ) (ht : Tidy σ) : TabAns 0 (eT0.ans ρ σ).1 (eT0.ans ρ σ).2 ∧ Fr Nowhere σ (eT0.ans ρ σ).2 := by
  have h := Few.has eT0_shape hf ht
  refine ⟨⟨eT0.to ρ σ 207, eT0.to ρ σ 301, eT0.to ρ σ 299, _, _, _, ?_, tab0 h⟩, Few.fr0 eT0_shape eT0_still hf ht⟩
  show V.rn (eT0.to ρ σ) eT0.v = _
  kernel_rfl
theorem eT1_still : eT1.still = true := by kernel_rfl
theorem ans1 {ρ : Nat → Nat} {σ : H} {args : List V} (hf : eT1.Fits ρ args σ) (ht : Tidy σ) : TabAns 1 (eT1.ans ρ σ).1 (eT1.ans ρ σ).2 ∧ Fr Nowhere σ (eT1.ans ρ σ).2 := by
  have h := Few.has eT1_shape hf ht
  refine ⟨⟨eT1.to ρ σ 244, eT1.to ρ σ 379, eT1.to ρ σ 377, _, _, _, ?_, tab1 h⟩, Few.fr0 eT1_shape eT1_still hf ht⟩
  show V.rn (eT1.to ρ σ) eT1.v = _
  kernel_rfl
theorem eT2_still : eT2.still = true := by kernel_rfl
theorem ans2 {ρ : Nat → Nat} {σ : H} {args : List V} (hf : eT2.Fits ρ args σ) (ht : Tidy σ) : TabAns 2 (eT2.ans ρ σ).1 (eT2.ans ρ σ).2 ∧ Fr Nowhere σ (eT2.ans ρ σ).2 := by
  have h := Few.has eT2_shape hf ht
  refine ⟨⟨eT2.to ρ σ 284, eT2.to ρ σ 478, eT2.to ρ σ 476, _, _, _, ?_, tab2 h⟩, Few.fr0 eT2_shape eT2_still hf ht⟩
  show V.rn (eT2.to ρ σ) eT2.v = _
  kernel_rfl
theorem eT3_still : eT3.still = true := by kernel_rfl
theorem ans3 {ρ : Nat → Nat} {σ : H} {args : List V} (hf : eT3.Fits ρ args σ) (ht : Tidy σ) : TabAns 3 (eT3.ans ρ σ).1 (eT3.ans ρ σ).2 ∧ Fr Nowhere σ (eT3.ans ρ σ).2 := by
  have h := Few.has eT3_shape hf ht
  refine ⟨⟨eT3.to ρ σ 324, eT3.to ρ σ 595, eT3.to ρ σ 593, _, _, _, ?_, tab3 h⟩, Few.fr0 eT3_shape eT3_still hf ht⟩
  show V.rn (eT3.to ρ σ) eT3.v = _
  kernel_rfl
theorem eT4_still : eT4.still = true := by kernel_rfl
theorem ans4 {ρ : Nat → Nat} {σ : H} {args : List V} (hf : eT4.Fits ρ args σ) (ht : Tidy σ) : TabAns 4 (eT4.ans ρ σ).1 (eT4.ans ρ σ).2 ∧ Fr Nowhere σ (eT4.ans ρ σ).2 := by
  have h := Few.has eT4_shape hf ht
  refine ⟨⟨eT4.to ρ σ 364, eT4.to ρ σ 730, eT4.to ρ σ 728, _, _, _, ?_, tab4 h⟩, Few.fr0 eT4_shape eT4_still hf ht⟩
  show V.rn (eT4.to ρ σ) eT4.v = _
  kernel_rfl
theorem eT5_still : eT5.still = true := by kernel_rfl
theorem ans5 {ρ : Nat → Nat} {σ : H} {args : List V} (hf : eT5.Fits ρ args σ) (ht : Tidy σ) : TabAns 5 (eT5.ans ρ σ).1 (eT5.ans ρ σ).2 ∧ Fr Nowhere σ (eT5.ans ρ σ).2 := by
  have h := Few.has eT5_shape hf ht
  refine ⟨⟨eT5.to ρ σ 404, eT5.to ρ σ 883, eT5.to ρ σ 881, _, _, _, ?_, tab5 h⟩, Few.fr0 eT5_shape eT5_still hf ht⟩
  show V.rn (eT5.to ρ σ) eT5.v = _
  kernel_rfl
theorem eT6_still : eT6.still = true := by kernel_rfl
theorem ans6 {ρ : Nat → Nat} {σ : H} {args : List V} (hf : eT6.Fits ρ args σ) (ht : Tidy σ) : TabAns 6 (eT6.ans ρ σ).1 (eT6.ans ρ σ).2 ∧ Fr Nowhere σ (eT6.ans ρ σ).2 := by
  have h := Few.has eT6_shape hf ht
  refine ⟨⟨eT6.to ρ σ 444, eT6.to ρ σ 1054, eT6.to ρ σ 1052, _, _, _, ?_, tab6 h⟩, Few.fr0 eT6_shape eT6_still hf ht⟩
  show V.rn (eT6.to ρ σ) eT6.v = _
  kernel_rfl
theorem eT7_still : eT7.still = true := by kernel_rfl
theorem ans7 {ρ : Nat → Nat} {σ : H} {args : List V} (hf : eT7.Fits ρ args σ) (ht : Tidy σ) : TabAns 7 (eT7.ans ρ σ).1 (eT7.ans ρ σ).2 ∧ Fr Nowhere σ (eT7.ans ρ σ).2 := by
  have h := Few.has eT7_shape hf ht
  refine ⟨⟨eT7.to ρ σ 484, eT7.to ρ σ 1243, eT7.to ρ σ 1241, _, _, _, ?_, tab7 h⟩, Few.fr0 eT7_shape eT7_still hf ht⟩
  show V.rn (eT7.to ρ σ) eT7.v = _
  kernel_rfl
theorem eT8_still : eT8.still = true := by kernel_rfl
theorem ans8 {ρ : Nat → Nat} {σ : H} {args : List V} (hf : eT8.Fits ρ args σ) (ht : Tidy σ) : TabAns 8 (eT8.ans ρ σ).1 (eT8.ans ρ σ).2 ∧ Fr Nowhere σ (eT8.ans ρ σ).2 := by
  have h := Few.has eT8_shape hf ht
  refine ⟨⟨eT8.to ρ σ 524, eT8.to ρ σ 1450, eT8.to ρ σ 1448, _, _, _, ?_, tab8 h⟩, Few.fr0 eT8_shape eT8_still hf ht⟩
  show V.rn (eT8.to ρ σ) eT8.v = _
  kernel_rfl
theorem eT9_still : eT9.still = true := by kernel_rfl
theorem ans9 {ρ : Nat → Nat} {σ : H} {args : List V} (hf : eT9.Fits ρ args σ) (ht : Tidy σ) : TabAns 9 (eT9.ans ρ σ).1 (eT9.ans ρ σ).2 ∧ Fr Nowhere σ (eT9.ans ρ σ).2 := by
  have h := Few.has eT9_shape hf ht
  refine ⟨⟨eT9.to ρ σ 564, eT9.to ρ σ 1675, eT9.to ρ σ 1673, _, _, _, ?_, tab9 h⟩, Few.fr0 eT9_shape eT9_still hf ht⟩
  show V.rn (eT9.to ρ σ) eT9.v = _
  kernel_rfl
theorem eT10_still : eT10.still = true := by kernel_rfl
theorem ans10 {ρ : Nat → Nat} {σ : H} {args : List V} (hf : eT10.Fits ρ args σ) (ht : Tidy σ) : TabAns 10 (eT10.ans ρ σ).1 (eT10.ans ρ σ).2 ∧ Fr Nowhere σ (eT10.ans ρ σ).2 := by
  have h := Few.has eT10_shape hf ht
  refine ⟨⟨eT10.to ρ σ 604, eT10.to ρ σ 1918, eT10.to ρ σ 1916, _, _, _, ?_, tab10 h⟩, Few.fr0 eT10_shape eT10_still hf ht⟩
  show V.rn (eT10.to ρ σ) eT10.v = _
  kernel_rfl
end
end Go.Proofs.YtpbdnlclihogfaaGreatDoor
