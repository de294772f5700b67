/- Slices of one-cell elements that a law reads: their cells, in the model and in the abstract heap. No program. -/
import Derived.Test.YtpcnmmbpgeahfaaGreatDoorPU
import Derived.Deep.Slices
import Derived.Carry
set_option maxRecDepth 100000
set_option linter.all false
namespace Go.Og
open Go Go.RowKit Go.Deep
theorem addr_add (b o i : Nat) : (⟨b, o, none⟩ : Addr).add i = ⟨b, o + i, none⟩ := by
  unfold Addr.add
  split
  · rename_i h; subst h; rfl
  · rfl
section
variable {H : Type} {enc : TypeId × Value → H} {P : Program} {w : World} {t e : TypeId} {d : DataW H} {ps : List MemPlace} {blk off len cap : Nat}
theorem row_cells (ht : P.underlying t = some (.slice e)) (hc : P.cellsOf e = 1) (h : DataW.Trod enc P w 0 (fun _ => true) true t (.slice (some ⟨blk, off, none⟩) len cap) d ps) :
    ∃ V : Nat → Value, ∀ i, i < len → w.cell? ⟨blk, off + i, none⟩ = some (V i) ∧ ∃ n D p, DataW.trod enc P w 0 (fun _ => true) true n e [V i] = some (D, p) := by
  obtain ⟨fuel, hf⟩ := h
  rcases open_slice1 ht hc hf with ⟨h0, _⟩ | ⟨a, len', cap', m, n, V, D, Pl, hcs, _, hl, _, hm, _, hx⟩
  · simp [Value.cells] at h0
  · simp only [Value.cells, List.cons.injEq, Value.slice.injEq, Option.some.injEq, and_true] at hcs
    obtain ⟨rfl, rfl, rfl⟩ := hcs
    refine ⟨V, fun i hi => ?_⟩
    obtain ⟨h1, h2⟩ := hx i (by rw [hm]; simp only [if_true]; omega)
    rw [addr_add] at h1
    exact ⟨h1, _, _, _, h2⟩
theorem row_bools (ht : P.underlying t = some (.slice e)) (he : P.underlying e = some .bool) (hc : P.cellsOf e = 1) (h : DataW.Trod enc P w 0 (fun _ => true) true t (.slice (some ⟨blk, off, none⟩) len cap) d ps) :
    ∃ B : Nat → Bool, ∀ i, i < len → w.cell? ⟨blk, off + i, none⟩ = some (.bool (B i)) := by
  obtain ⟨V, hV⟩ := row_cells ht hc h
  have : ∀ i, i < len → ∃ b, V i = .bool b := fun i hi => by
    obtain ⟨_, n, D, p, h2⟩ := hV i hi
    obtain ⟨b, hb, _⟩ := DataW.trod_bool he h2
    simp only [List.cons.injEq, and_true] at hb
    exact ⟨b, hb⟩
  obtain ⟨B, hB⟩ := choose_lt this
  exact ⟨B, fun i hi => by rw [(hV i hi).1, hB i hi]⟩
theorem row_ints {k : IntKind} (ht : P.underlying t = some (.slice e)) (he : P.underlying e = some (.int k)) (hc : P.cellsOf e = 1) (h : DataW.Trod enc P w 0 (fun _ => true) true t (.slice (some ⟨blk, off, none⟩) len cap) d ps) :
    ∃ B : Nat → Int, ∀ i, i < len → w.cell? ⟨blk, off + i, none⟩ = some (.int k (B i)) ∧ (Lit.int k (B i)).wf = true := by
  obtain ⟨V, hV⟩ := row_cells ht hc h
  have : ∀ i, i < len → ∃ b, V i = .int k b ∧ (Lit.int k b).wf = true := fun i hi => by
    obtain ⟨_, n, D, p, h2⟩ := hV i hi
    cases n with
    | zero => simp [DataW.trod] at h2
    | succ n =>
      unfold DataW.trod at h2
      rw [he] at h2
      split at h2 <;> simp_all
  obtain ⟨B, hB⟩ := choose_lt this
  exact ⟨B, fun i hi => ⟨by rw [(hV i hi).1, (hB i hi).1], (hB i hi).2⟩⟩
end
theorem cell_arr {w : World} {blk off : Nat} {v : Value} (h : w.cell? ⟨blk, off, none⟩ = some v) : ∃ arr el fr, w.heap[blk]? = some (.cells arr el fr) ∧ arr[off]? = some v := by
  unfold World.cell? at h
  simp only [] at h
  split at h
  · rename_i c el fr hh
    exact ⟨c, el, fr, hh, by simpa using h⟩
  · cases h
theorem ext_row {R : Ren} {w : World} {blk off : Nat} {l : List V} (hne : l ≠ []) (h : ∀ k v, l[k]? = some v → ∃ a, conc R v = some a ∧ a.oneCell' = true ∧ w.cell? ⟨blk, off + k, none⟩ = some a) : ExtOk R ⟨blk, off, 0⟩ (.cells l) w := by
  cases l with
  | nil => exact (hne rfl).elim
  | cons u l =>
    obtain ⟨a, _, _, h0⟩ := h 0 u rfl
    obtain ⟨arr, el, fr, h1, _⟩ := cell_arr h0
    refine ⟨arr, el, fr, h1, fun k v hk => ?_⟩
    obtain ⟨a', h2, h3, h4⟩ := h k v hk
    obtain ⟨arr', el', fr', h5, h6⟩ := cell_arr h4
    rw [h1] at h5
    cases h5
    exact ⟨a', h2, h3, h6⟩
theorem ext_bools {R : Ren} {w : World} {blk off len : Nat} {B : Nat → Bool} (h : ∀ i, i < len → w.cell? ⟨blk, off + i, none⟩ = some (.bool (B i))) {n : Nat} (h0 : n ≠ 0) (hn : n ≤ len) : ExtOk R ⟨blk, off, 0⟩ (.cells ((List.range n).map fun i => .bool (B i))) w := by
  refine ext_row (by simp [h0]) fun k v hk => ?_
  rw [List.getElem?_map, Option.map_eq_some_iff] at hk
  obtain ⟨j, hj, rfl⟩ := hk
  obtain ⟨hj1, rfl⟩ := List.getElem?_eq_some_iff.1 hj
  have hk' : k < n := by simpa using hj1
  refine ⟨.bool (B k), ?_, rfl, h k (by omega)⟩
  simp [conc]
theorem ext_one {R : Ren} {w : World} {id : Nat} {i : BI} {b : Blk} (hR : R id = some i) (h : ExtOk R i b w) : ∀ id' b', look [(id, b)] id' = some b' → ∃ j, R id' = some j ∧ ExtOk R j b' w := by
  intro id' b' hb
  simp only [look] at hb
  split at hb
  · rename_i he
    have := Nat.eq_of_beq_eq_true he
    subst this
    cases hb
    exact ⟨i, hR, h⟩
  · cases hb
end Go.Og
