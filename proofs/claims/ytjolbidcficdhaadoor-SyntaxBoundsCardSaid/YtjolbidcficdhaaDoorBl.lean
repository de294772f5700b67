/- Bounds, in all the ways in which they are written: the parser's functions as the table has them. -/
import Derived.Test.YtjolbidcficdhaaDoorBp
import Derived.Test.YtjolbidcficdhaaDoorMl
set_option linter.all false
set_option maxRecDepth 100000
namespace Go.Proofs.YtjolbidcficdhaaDoor
open Go Go.Og
noncomputable section
/-- From place j on there stand signs of those kinds and texts. -/
def ShapeAt (ts : List Tk) (j : Nat) (l : List (Nat × List Nat)) : Prop := ∀ i k w, l[i]? = some (k, w) → ∃ a, ts[j + i]? = some (k, w, a)
theorem ShapeAt.drop {ts : List Tk} {j : Nat} {a b : List (Nat × List Nat)} (h : ShapeAt ts j (a ++ b)) : ShapeAt ts (j + a.length) b := fun i k w hi => by
  obtain ⟨x, hx⟩ := h (a.length + i) k w (by rw [List.getElem?_append_right (by omega)]; rw [show a.length + i - a.length = i by omega]; exact hi)
  exact ⟨x, by rw [Nat.add_assoc]; exact hx⟩
theorem ShapeAt.get {ts : List Tk} {j : Nat} {l : List (Nat × List Nat)} (h : ShapeAt ts j l) (i : Nat) {k : Nat} {w : List Nat} (hi : l[i]? = some (k, w)) : ∃ a, ts[j + i]? = some (k, w, a) := h i k w hi
/-- The signs of bounds. -/
def formS (f : Nat) (w1 w2 : List Nat) : List (Nat × List Nat) := match f with
  | 0 => [(3, w1), (6, [46, 46]), (3, w2)]
  | 1 => [(3, w1)]
  | 2 => [(3, w1), (6, [46, 46]), (5, [77, 65, 88])]
  | 3 => [(5, [77, 73, 78]), (6, [46, 46]), (3, w2)]
  | _ => [(5, [77, 73, 78]), (6, [46, 46]), (5, [77, 65, 88])]
def moreS (m : Bool) : List (Nat × List Nat) := match m with
  | true => [(6, [44]), (6, [46, 46, 46])]
  | false => []
def fHl (f : Nat) : Bool := match f with | 0 => true | 1 => true | 2 => true | _ => false
def fHh (f : Nat) : Bool := match f with | 0 => true | 1 => true | 3 => true | _ => false
def fLo (f : Nat) (u : Int) : Int := match f with | 0 => u | 1 => u | 2 => u | _ => Int.ofNat 0
def fHi (f : Nat) (u v : Int) : Int := match f with | 0 => v | 1 => u | 3 => v | _ => Int.ofNat 0
theorem xBegW (d : Nat) : SpBegW (DT [] 100000 (d + 1) 52) := by rw [DE52]; exact begw_F
theorem xMark0 {ts : List Tk} {j : Nat} {t : Tk} (d : Nat) (ht : ts[j]? = some t) (hs : stB t (BS.mk 1 91) = false) : SpMark0 ts j (DT [] 100000 (d + 4) 62) := by rw [DE62]; exact mark0_F (xIs d) ht hs
section
variable {ts : List Tk} {j : Nat} {u v : Int} {w1 w2 : List Nat}
/-- The two parts of bounds ahead of what may be more. -/
theorem form_to (d : Nat) (hu : NumOk w1 u) (hv : NumOk w2 v) {f : Nat} (hf : f < 5) {t : Tk} (h : ShapeAt ts j (formS f w1 w2)) (ht : ts[j + (formS f w1 w2).length]? = some t) (hs : stB t (BS.mk 2 11822) = false) (p tb : Nat) (m : List V) (cb k on : Nat) :
    To (J64_0 [] (DT [] 100000 (d + 4)) (drawW [] (DT [] 100000 (d + 4))) 100000 p 0 cb 5) (J64_2 [] (DT [] 100000 (d + 4)) (drawW [] (DT [] 100000 (d + 4))) 100000 p 0 cb 5) p tb ts j (j + (formS f w1 w2).length) m cb (nd k false false false false (Int.ofNat 0) (Int.ofNat 0) on) (nd k true (fHl f) (fHh f) false (fLo f u) (fHi f u v) on) := by
  have I := xIs (d + 1)
  have P := xPNum d
  match f, hf with
  | 0, _ =>
    obtain ⟨a0, h0⟩ := h.get 0 rfl
    obtain ⟨a1, h1⟩ := h.get 1 rfl
    obtain ⟨a2, h2⟩ := h.get 2 rfl
    exact (low_num I P h0 hu).trans (high_num I P h1 (stB_of (by decide +kernel)) h2 hv)
  | 1, _ =>
    obtain ⟨a0, h0⟩ := h.get 0 rfl
    exact (low_num I P h0 hu).trans (high_same I ht hs)
  | 2, _ =>
    obtain ⟨a0, h0⟩ := h.get 0 rfl
    obtain ⟨a1, h1⟩ := h.get 1 rfl
    obtain ⟨a2, h2⟩ := h.get 2 rfl
    exact (low_num I P h0 hu).trans (high_max I h1 (stB_of (by decide +kernel)) h2 (stB_of (by decide +kernel)))
  | 3, _ =>
    obtain ⟨a0, h0⟩ := h.get 0 rfl
    obtain ⟨a1, h1⟩ := h.get 1 rfl
    obtain ⟨a2, h2⟩ := h.get 2 rfl
    exact (low_min I h0 (stB_of (by decide +kernel))).trans (high_num I P h1 (stB_of (by decide +kernel)) h2 hv)
  | 4, _ =>
    obtain ⟨a0, h0⟩ := h.get 0 rfl
    obtain ⟨a1, h1⟩ := h.get 1 rfl
    obtain ⟨a2, h2⟩ := h.get 2 rfl
    exact (low_min I h0 (stB_of (by decide +kernel))).trans (high_max I h1 (stB_of (by decide +kernel)) h2 (stB_of (by decide +kernel)))
/-- All of the bounds; behind them there stands a bracket. -/
def allS (f : Nat) (m : Bool) (w1 w2 : List Nat) : List (Nat × List Nat) := formS f w1 w2 ++ (moreS m ++ [(6, [41])])
theorem xBounds (d : Nat) (hu : NumOk w1 u) (hv : NumOk w2 v) {f : Nat} (hf : f < 5) (mo : Bool) (h : ShapeAt ts j (allS f mo w1 w2)) :
    SpBd ts j (j + (formS f w1 w2).length + (moreS mo).length) (fHl f) (fHh f) mo (fLo f u) (fHi f u v) (DT [] 100000 (d + 5) 64) := by
  rw [DE64]
  have h1 : ShapeAt ts j (formS f w1 w2) := fun i k w hi => h i k w (by
    obtain ⟨hlt, _⟩ := List.getElem?_eq_some_iff.1 hi
    unfold allS; rw [List.getElem?_append_left hlt]; exact hi)
  have h2 : ShapeAt ts (j + (formS f w1 w2).length) (moreS mo ++ [(6, [41])]) := h.drop
  refine bounds_F fun p tb m cb k on => ?_
  cases mo with
  | false =>
    obtain ⟨a, ha⟩ := h2.get 0 rfl
    exact (form_to d hu hv hf h1 ha (stB_of (by decide +kernel)) p tb m cb k on).trans (more_no (xIs (d + 1)) ha (stB_of (by decide +kernel)))
  | true =>
    obtain ⟨a, ha⟩ := h2.get 0 rfl
    obtain ⟨b, hb⟩ := h2.get 1 rfl
    exact (form_to d hu hv hf h1 ha (stB_of (by decide +kernel)) p tb m cb k on).trans (more_yes (xIs (d + 1)) (xWant d) ha (stB_of (by decide +kernel)) hb (stB_of (by decide +kernel)))
end
end
end Go.Proofs.YtjolbidcficdhaaDoor
