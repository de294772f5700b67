/- The three types with bounds, and modules of them. -/
import Derived.Test.YtjolbidcficdhaaDoorBl
set_option linter.all false
set_option maxRecDepth 100000
namespace Go.Proofs.YtjolbidcficdhaaDoor
open Go Go.Og
noncomputable section
section
variable {ts : List Tk} {j : Nat} {u v : Int} {w1 w2 : List Nat}
theorem ShapeAt.take {ts : List Tk} {j : Nat} {a b : List (Nat × List Nat)} (h : ShapeAt ts j (a ++ b)) : ShapeAt ts j a := fun i k w hi => h i k w (by
  obtain ⟨hlt, _⟩ := List.getElem?_eq_some_iff.1 hi
  rw [List.getElem?_append_left hlt]; exact hi)
theorem allS_last (f : Nat) (m : Bool) (w1 w2 : List Nat) : (allS f m w1 w2)[(formS f w1 w2).length + (moreS m).length]? = some (6, [41]) := by
  unfold allS
  rw [List.getElem?_append_right (by omega), List.getElem?_append_right (by omega), show (formS f w1 w2).length + (moreS m).length - (formS f w1 w2).length - (moreS m).length = 0 by omega]
  rfl
def bLen (f : Nat) (mo : Bool) : Nat := (formS f [] []).length + (moreS mo).length
theorem bLen_eq (f : Nat) (mo : Bool) (w1 w2 : List Nat) : (formS f w1 w2).length + (moreS mo).length = bLen f mo := by
  unfold bLen formS
  match f with
  | 0 => rfl
  | 1 => rfl
  | 2 => rfl
  | 3 => rfl
  | _ + 4 => rfl
def sizeS (f : Nat) (mo : Bool) (w1 w2 : List Nat) : List (Nat × List Nat) := [(6, [40]), (5, [83, 73, 90, 69]), (6, [40])] ++ (allS f mo w1 w2 ++ [(6, [41])])
theorem xSize (d : Nat) (hu : NumOk w1 u) (hv : NumOk w2 v) {f : Nat} (hf : f < 5) (mo : Bool) (h : ShapeAt ts j (sizeS f mo w1 w2)) :
    SpBd ts j (j + 3 + bLen f mo + 2) (fHl f) (fHh f) mo (fLo f u) (fHi f u v) (DT [] 100000 (d + 6) 63) := by
  rw [DE63]
  obtain ⟨a0, h0⟩ := h.get 0 rfl
  obtain ⟨a1, h1⟩ := h.get 1 rfl
  obtain ⟨a2, h2⟩ := h.get 2 rfl
  have h3 : ShapeAt ts (j + 3) (allS f mo w1 w2 ++ [(6, [41])]) := h.drop
  have h4 : ShapeAt ts (j + 3) (allS f mo w1 w2) := h3.take
  obtain ⟨a3, h5⟩ := h4.get _ (allS_last f mo w1 w2)
  have hl : (allS f mo w1 w2).length = bLen f mo + 1 := by rw [← bLen_eq f mo w1 w2]; unfold allS; simp; omega
  have h6 : ShapeAt ts (j + 3 + (allS f mo w1 w2).length) [(6, [41])] := h3.drop
  obtain ⟨a4, h7⟩ := h6.get 0 rfl
  have hB := xBounds d hu hv hf mo h4
  rw [bLen_eq] at h5
  rw [Nat.add_assoc (j + 3), bLen_eq] at hB
  rw [hl] at h7
  exact size_F (xIs (d + 2)) (xWant (d + 1)) h0 (stB_of (by decide +kernel)) h1 (stB_of (by decide +kernel)) h2 (stB_of (by decide +kernel)) hB h5 (stB_of (by decide +kernel)) h7 (stB_of (by decide +kernel))
theorem begW_of {k a : Nat} {w : List Nat} (h : (BS.beq (ofN w) (BS.mk 4 1280070990) || BS.beq (ofN w) (BS.mk 7 23157120498421321) || BS.beq (ofN w) (BS.mk 5 361940403023) || BS.beq (ofN w) (BS.mk 8 4990918871747741011)) = true) : begW (k, w, a) = true := h
def intW : List Nat := [73, 78, 84, 69, 71, 69, 82]
def octW : List Nat := [79, 67, 84, 69, 84]
def strW : List Nat := [83, 84, 82, 73, 78, 71]
def seqW : List Nat := [83, 69, 81, 85, 69, 78, 67, 69]
def nullW : List Nat := [78, 85, 76, 76]
theorem xTyInt (d : Nat) (hu : NumOk w1 u) (hv : NumOk w2 v) {f : Nat} (hf : f < 5) (mo : Bool) (h : ShapeAt ts j ([(5, intW), (6, [40])] ++ allS f mo w1 w2)) :
    SpTy ts j (j + 2 + bLen f mo + 1) 0 1 [] (nd 2 true (fHl f) (fHh f) mo (fLo f u) (fHi f u v) 0) 0 (DT [] 100000 (d + 7) 44) := by
  obtain ⟨a0, h0⟩ := h.get 0 rfl
  obtain ⟨a1, h1⟩ := h.get 1 rfl
  have h4 : ShapeAt ts (j + 2) (allS f mo w1 w2) := h.drop
  obtain ⟨a3, h5⟩ := h4.get _ (allS_last f mo w1 w2)
  have hB := xBounds d hu hv hf mo h4
  rw [bLen_eq] at h5
  rw [Nat.add_assoc (j + 2), bLen_eq] at hB
  have hN : SpNd ts j (j + 2 + bLen f mo + 1) (nd 2 true (fHl f) (fHh f) mo (fLo f u) (fHi f u v) 0) Same (DT [] 100000 (d + 6) 53) := by
    rw [DE53]
    exact int_F (xSPeek (d + 4)) (xIs (d + 2)) (xWant (d + 1)) (xMark0 (d + 1) h0 (stB_of (by decide +kernel))) h0 rfl (stB_of (by decide +kernel)) (stB_of (by decide +kernel)) (stB_of (by decide +kernel)) (stB_of (by decide +kernel)) h1 (stB_of (by decide +kernel)) hB h5 (stB_of (by decide +kernel))
  rw [DE44]
  exact ty_F (l2 := []) (xSPeek (d + 5)) (xBegW (d + 5)) (nt_of hN) h0 (begW_of (by decide +kernel)) rfl (by omega) (by omega) (by omega) rfl rfl rfl
theorem xTyOct (d : Nat) (hu : NumOk w1 u) (hv : NumOk w2 v) {f : Nat} (hf : f < 5) (mo : Bool) (h : ShapeAt ts j ([(5, octW), (5, strW)] ++ sizeS f mo w1 w2)) :
    SpTy ts j (j + 2 + 3 + bLen f mo + 2) 0 1 [] (nd 5 true (fHl f) (fHh f) mo (fLo f u) (fHi f u v) 0) 0 (DT [] 100000 (d + 8) 44) := by
  obtain ⟨a0, h0⟩ := h.get 0 rfl
  obtain ⟨a1, h1⟩ := h.get 1 rfl
  have h4 : ShapeAt ts (j + 2) (sizeS f mo w1 w2) := h.drop
  have hB := xSize d hu hv hf mo h4
  have hN : SpNd ts j (j + 2 + 3 + bLen f mo + 2) (nd 5 true (fHl f) (fHh f) mo (fLo f u) (fHi f u v) 0) Same (DT [] 100000 (d + 7) 53) := by
    rw [DE53]
    exact oct_F (xSPeek (d + 5)) (xIs (d + 3)) (xWant (d + 2)) (xMark0 (d + 2) h0 (stB_of (by decide +kernel))) h0 rfl (stB_of (by decide +kernel)) (stB_of (by decide +kernel)) (stB_of (by decide +kernel)) (stB_of (by decide +kernel)) (stB_of (by decide +kernel)) h1 (stB_of (by decide +kernel)) hB
  rw [DE44]
  exact ty_F (l2 := []) (xSPeek (d + 6)) (xBegW (d + 6)) (nt_of hN) h0 (begW_of (by decide +kernel)) rfl (by omega) (by omega) (by omega) rfl rfl rfl
theorem xTyNull (d : Nat) (h : ShapeAt ts j [(5, nullW)]) :
    SpTy ts j (j + 1) 1 2 zero16 (zero16 ++ nd 4 false false false false (Int.ofNat 0) (Int.ofNat 0) 0) 1 (DT [] 100000 (d + 6) 44) := by
  obtain ⟨a0, h0⟩ := h.get 0 rfl
  have hN : SpNd ts j (j + 1) (nd 4 false false false false (Int.ofNat 0) (Int.ofNat 0) 0) Same (DT [] 100000 (d + 5) 53) := by
    rw [DE53]
    exact null_F (xSPeek (d + 3)) (xIs (d + 1)) (xMark0 d h0 (stB_of (by decide +kernel))) h0 rfl (stB_of (by decide +kernel)) (stB_of (by decide +kernel))
  rw [DE44]
  exact ty_F (l2 := []) (xSPeek (d + 4)) (xBegW (d + 4)) (nt_of hN) h0 (begW_of (by decide +kernel)) rfl (by omega) (by omega) (by omega) rfl rfl rfl
theorem xTySeq (d : Nat) (hu : NumOk w1 u) (hv : NumOk w2 v) {f : Nat} (hf : f < 5) (mo : Bool) (h : ShapeAt ts j ([(5, seqW)] ++ (sizeS f mo w1 w2 ++ [(5, [79, 70]), (5, nullW)]))) :
    SpTy ts j (j + 1 + 3 + bLen f mo + 2 + 1 + 1) 0 2 [] (nd 10 true (fHl f) (fHh f) mo (fLo f u) (fHi f u v) 1 ++ nd 4 false false false false (Int.ofNat 0) (Int.ofNat 0) 0) 0 (DT [] 100000 (d + 9) 44) := by
  obtain ⟨a0, h0⟩ := h.get 0 rfl
  have h4 : ShapeAt ts (j + 1) (sizeS f mo w1 w2 ++ [(5, [79, 70]), (5, nullW)]) := h.drop
  obtain ⟨a1, h1⟩ := h4.get 0 rfl
  have hB := xSize d hu hv hf mo h4.take
  have hl : (sizeS f mo w1 w2).length = 3 + bLen f mo + 2 := by rw [← bLen_eq f mo w1 w2]; unfold sizeS allS; simp; omega
  have h5 : ShapeAt ts (j + 1 + (sizeS f mo w1 w2).length) [(5, [79, 70]), (5, nullW)] := h4.drop
  rw [hl, show j + 1 + (3 + bLen f mo + 2) = j + 1 + 3 + bLen f mo + 2 by omega] at h5
  obtain ⟨a2, h6⟩ := h5.get 0 rfl
  have h7 : ShapeAt ts (j + 1 + 3 + bLen f mo + 2 + 1) [(5, nullW)] := ShapeAt.drop (a := [(5, [79, 70])]) h5
  have hQ : SpSq ts (j + 1) (j + 1 + 3 + bLen f mo + 2 + 1 + 1) (fHl f) (fHh f) mo (fLo f u) (fHi f u v) 0 (DT [] 100000 (d + 7) 67) := by
    rw [DE67]
    exact seq_F (xStands (d + 4)) (xWant (d + 2)) (by omega) h1 (stB_of (by decide +kernel)) hB h6 (stB_of (by decide +kernel)) (xTyNull d h7)
  have hN : SpNt ts j (j + 1 + 3 + bLen f mo + 2 + 1 + 1) 0 2 [] (nd 4 false false false false (Int.ofNat 0) (Int.ofNat 0) 0) (nd 10 true (fHl f) (fHh f) mo (fLo f u) (fHi f u v) 1) 0 (DT [] 100000 (d + 8) 53) := by
    rw [DE53]
    exact seqnode_F (xSPeek (d + 6)) (xIs (d + 4)) (xMark0 (d + 3) h0 (stB_of (by decide +kernel))) h0 rfl (stB_of (by decide +kernel)) (stB_of (by decide +kernel)) (stB_of (by decide +kernel)) (stB_of (by decide +kernel)) (stB_of (by decide +kernel)) (stB_of (by decide +kernel)) (stB_of (by decide +kernel)) (stB_of (by decide +kernel)) (stB_of (by decide +kernel)) hQ
  rw [DE44]
  exact ty_F (xSPeek (d + 7)) (xBegW (d + 7)) hN h0 (begW_of (by decide +kernel)) rfl (by omega) (by omega) (by omega) rfl rfl rfl
end
end
end Go.Proofs.YtjolbidcficdhaaDoor
