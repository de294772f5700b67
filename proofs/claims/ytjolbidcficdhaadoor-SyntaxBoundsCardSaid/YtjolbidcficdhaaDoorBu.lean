/- Modules of the three types with bounds. -/
import Derived.Test.YtjolbidcficdhaaDoorBt
set_option linter.all false
set_option maxRecDepth 100000
namespace Go.Proofs.YtjolbidcficdhaaDoor
open Go Go.Og
noncomputable section
section
variable {ts : List Tk} {j : Nat} {u v : Int} {w1 w2 : List Nat}
def preS : List (Nat × List Nat) := [(1, [77]), (5, [68, 69, 70, 73, 78, 73, 84, 73, 79, 78, 83]), (6, [58, 58, 61]), (5, [66, 69, 71, 73, 78]), (1, [65]), (6, [58, 58, 61])]
def endS : List (Nat × List Nat) := [(5, [69, 78, 68]), (0, [])]
theorem xModN {r : NodR} (e : Nat) {X : List (Nat × List Nat)} (h : ShapeAt ts 0 (preS ++ (X ++ endS))) (hj : r.j2 = 6 + X.length) (ha : r.a = 0) (he : r.e = 0) (hT : SpTyN ts 6 r (DT [] 100000 (e + 4) 44)) : SpModN ts r (DT [] 100000 (e + 6) 12) := by
  obtain ⟨a0, h0⟩ := h.get 0 rfl
  obtain ⟨a1, h1⟩ := h.get 1 rfl
  obtain ⟨a2, h2⟩ := h.get 2 rfl
  obtain ⟨a3, h3⟩ := h.get 3 rfl
  obtain ⟨a4, h4⟩ := h.get 4 rfl
  obtain ⟨a5, h5⟩ := h.get 5 rfl
  rw [Nat.zero_add] at h0 h1 h2 h3 h4 h5
  have h6 : ShapeAt ts (0 + 6) (X ++ endS) := h.drop
  have h7 : ShapeAt ts (0 + 6 + X.length) endS := h6.drop
  obtain ⟨a6, h8⟩ := h7.get 0 rfl
  obtain ⟨a7, h9⟩ := h7.get 1 rfl
  rw [Nat.zero_add, ← hj] at h8 h9
  have hm : ModN ts r := ⟨⟨_, h0, rfl⟩, ⟨_, h1, stB_of (by decide +kernel)⟩, ⟨_, h2, stB_of (by decide +kernel), stB_of (by decide +kernel), stB_of (by decide +kernel), stB_of (by decide +kernel)⟩, ⟨_, h3, stB_of (by decide +kernel)⟩, ⟨_, h4, rfl⟩, fun _ => ⟨_, _, h8, rfl, stB_of (by decide +kernel), h9, rfl, ha, he⟩⟩
  have hA : SpAssN ts 4 r (DT [] 100000 (e + 5) 24) := by
    rw [DE24]; exact assignN_F (xNext (e + 3)) (xWant e) hT h4 rfl h5 (stB_of (by decide +kernel))
  rw [DE12]
  exact modN_F (xSPeek (e + 4)) (xStands (e + 3)) (xOf (e + 3)) (xWant (e + 1)) hA hm big
/-- The signs of the type. -/
def typS (q f : Nat) (mo : Bool) (w1 w2 : List Nat) : List (Nat × List Nat) := match q with
  | 0 => [(5, intW), (6, [40])] ++ allS f mo w1 w2
  | 1 => [(5, octW), (5, strW)] ++ sizeS f mo w1 w2
  | _ => [(5, seqW)] ++ (sizeS f mo w1 w2 ++ [(5, [79, 70]), (5, nullW)])
def typL (q f : Nat) (mo : Bool) (u v : Int) : List V := match q with
  | 0 => nd 2 true (fHl f) (fHh f) mo (fLo f u) (fHi f u v) 0
  | 1 => nd 5 true (fHl f) (fHh f) mo (fLo f u) (fHi f u v) 0
  | _ => nd 10 true (fHl f) (fHh f) mo (fLo f u) (fHi f u v) 1 ++ nd 4 false false false false (Int.ofNat 0) (Int.ofNat 0) 0
def typN (q : Nat) : Nat := match q with | 0 => 1 | 1 => 1 | _ => 2
theorem modB (d : Nat) (hu : NumOk w1 u) (hv : NumOk w2 v) {f q : Nat} (hf : f < 5) (hq : q < 3) (mo : Bool) (h : ShapeAt ts 0 (preS ++ (typS q f mo w1 w2 ++ endS))) :
    SpModN ts ⟨true, 6 + (typS q f mo w1 w2).length, typL q f mo u v, 0, 0, typN q⟩ (DT [] 100000 (d + 11) 12) := by
  have h6 : ShapeAt ts 6 (typS q f mo w1 w2) := (show ShapeAt ts (0 + 6) _ from h.drop).take
  have hl : (allS f mo w1 w2).length = bLen f mo + 1 := by rw [← bLen_eq f mo w1 w2]; unfold allS; simp; omega
  have hs : (sizeS f mo w1 w2).length = 3 + bLen f mo + 2 := by unfold sizeS; simp [hl]; omega
  refine xModN (d + 5) h rfl rfl rfl ?_
  match q, hq with
  | 0, _ =>
    have e : 6 + (typS 0 f mo w1 w2).length = 6 + 2 + bLen f mo + 1 := by unfold typS; simp [hl]; omega
    rw [e]
    exact tyN_of (xTyInt (d + 2) hu hv hf mo h6)
  | 1, _ =>
    have e : 6 + (typS 1 f mo w1 w2).length = 6 + 2 + 3 + bLen f mo + 2 := by unfold typS; simp [hs]; omega
    rw [e]
    exact tyN_of (xTyOct (d + 1) hu hv hf mo h6)
  | 2, _ =>
    have e : 6 + (typS 2 f mo w1 w2).length = 6 + 1 + 3 + bLen f mo + 2 + 1 + 1 := by unfold typS; simp [hs]; omega
    rw [e]
    exact tyN_of (xTySeq d hu hv hf mo h6)
end
end
end Go.Proofs.YtjolbidcficdhaaDoor
