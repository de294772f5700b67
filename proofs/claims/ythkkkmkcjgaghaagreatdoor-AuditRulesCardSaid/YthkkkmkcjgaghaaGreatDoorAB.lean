/- An open region whose operations do not look at a temporary: what that one holds turns nothing. No condition. -/
import Derived.Test.YthkkkmkcjgaghaaGreatDoorAOgZ
namespace Go.Og
noncomputable section
structure But (t0 : Nat) (u u' : V) (e e' : Env) : Prop where
  other : ∀ t, t ≠ t0 → look e t = look e' t
  left : look e t0 = some u
  right : look e' t0 = some u'
theorem But.put {t0 : Nat} {u u' : V} {e e' : Env} (h : But t0 u u' e e') {d : Option Nat} (hd : d ≠ some t0) (v : V) : But t0 u u' (putE e d v) (putE e' d v) := by
  cases d with
  | none => exact h
  | some d =>
    have hne : d ≠ t0 := fun x => hd (by rw [x])
    refine ⟨fun t ht => ?_, ?_, ?_⟩
    · simp only [putE, look]
      split
      · rfl
      · exact h.other t ht
    · simp only [putE, look]
      rw [if_neg (by simpa using hne)]
      exact h.left
    · simp only [putE, look]
      rw [if_neg (by simpa using hne)]
      exact h.right
theorem But.restr {t0 : Nat} {u u' : V} {e e' : Env} (h : But t0 u u' e e') : ∀ {l : List Nat}, t0 ∉ l → restr l e = restr l e'
  | [], _ => rfl
  | t :: l, hl => by
    simp only [List.mem_cons, not_or] at hl
    simp only [Og.restr, h.other t (fun x => hl.1 x.symm), But.restr h hl.2]
def clear (t0 : Nat) (ops : List AOper) (pl : List DP) : Bool := ops.all (fun o => match o.dst with | some d => !Nat.beq d t0 | none => true) && pl.all (fun p => p.looks.all fun t => !Nat.beq t t0)
theorem dstep_but {E : List (Nat × Blk)} {D : Den} {n0 n i t0 : Nat} {u u' : V} {o : AOper} {p : DP} (ho : o.dst ≠ some t0) (hp : t0 ∉ p.looks) {s : DS} {e' : Env} (h : But t0 u u' s.e e') :
    (dstep E D n0 n i o p s = none ∧ dstep E D n0 n i o p { s with e := e' } = none) ∨ ∃ s1 e1, dstep E D n0 n i o p s = some s1 ∧ dstep E D n0 n i o p { s with e := e' } = some { s1 with e := e1 } ∧ But t0 u u' s1.e e1 := by
  have hr := h.restr hp
  unfold dstep
  simp only [← hr]
  split
  · exact .inl ⟨rfl, rfl⟩
  · exact .inr ⟨_, _, rfl, rfl, h.put ho _⟩
  · split
    · split
      · exact .inl ⟨rfl, rfl⟩
      · exact .inr ⟨_, _, rfl, rfl, h.put ho _⟩
    · split
      · exact .inl ⟨rfl, rfl⟩
      · split
        · exact .inl ⟨rfl, rfl⟩
        · exact .inr ⟨_, _, rfl, rfl, h.put ho _⟩
    · split
      · exact .inl ⟨rfl, rfl⟩
      · exact .inr ⟨_, _, rfl, rfl, h.put ho _⟩
    · split
      · exact .inl ⟨rfl, rfl⟩
      · split
        · exact .inl ⟨rfl, rfl⟩
        · exact .inr ⟨_, _, rfl, rfl, h.put ho _⟩
theorem dsteps_but {E : List (Nat × Blk)} {D : Den} {n0 n t0 : Nat} {u u' : V} : ∀ (ops : List AOper) (pl : List DP) (i : Nat) (s : DS) (e' : Env), clear t0 ops pl = true → But t0 u u' s.e e' →
    (dsteps E D n0 n i ops pl s = none ∧ dsteps E D n0 n i ops pl { s with e := e' } = none) ∨ ∃ s1 e1, dsteps E D n0 n i ops pl s = some s1 ∧ dsteps E D n0 n i ops pl { s with e := e' } = some { s1 with e := e1 } ∧ But t0 u u' s1.e e1
  | [], _, i, s, e', _, h => .inr ⟨s, e', rfl, rfl, h⟩
  | _ :: _, [], i, s, e', _, h => .inl ⟨rfl, rfl⟩
  | o :: l, p :: pl, i, s, e', hc, h => by
    simp only [clear, List.all_cons, Bool.and_eq_true] at hc
    have ho : o.dst ≠ some t0 := fun he => by
      have := hc.1.1; rw [he] at this; simp at this
    have hp : t0 ∉ p.looks := fun hm => by
      have := List.all_eq_true.1 hc.2.1 t0 hm; simp at this
    simp only [dsteps]
    rcases dstep_but (E := E) (D := D) (n0 := n0) (n := n) (i := i) ho hp h with ⟨h1, h2⟩ | ⟨s1, e1, h1, h2, h3⟩
    · exact .inl ⟨by rw [h1], by rw [h2]⟩
    · rw [h1, h2]
      exact dsteps_but l pl (i + 1) s1 e1 (by simp only [clear, Bool.and_eq_true]; exact ⟨hc.1.2, hc.2.2⟩) h3
theorem drawW_but {E : List (Nat × Blk)} {D : Den} {t0 : Nat} {u u' : V} {ops : List AOper} {pl : List DP} (hc : clear t0 ops pl = true) {e e' : Env} {σ : H} (h : But t0 u u' e e') :
    (drawW E D ops pl e σ = none ∧ drawW E D ops pl e' σ = none) ∨ ∃ e1 e1' σ1, drawW E D ops pl e σ = some (e1, σ1) ∧ drawW E D ops pl e' σ = some (e1', σ1) ∧ But t0 u u' e1 e1' := by
  unfold drawW
  rcases dsteps_but (E := E) (D := D) (n0 := σ.next) (n := ops.length) ops pl 0 ⟨e, σ.next + ops.length, [σ.bl], [], 0, []⟩ e' hc h with ⟨h1, h2⟩ | ⟨s1, e1, h1, h2, h3⟩
  · exact .inl ⟨by rw [h1], by simp only at h2; rw [h2]⟩
  · simp only at h2
    rw [h1, h2]
    simp only
    split
    · split
      · exact .inr ⟨_, _, _, rfl, rfl, h3⟩
      · exact .inl ⟨rfl, rfl⟩
    · exact .inl ⟨rfl, rfl⟩
end
end Go.Og
