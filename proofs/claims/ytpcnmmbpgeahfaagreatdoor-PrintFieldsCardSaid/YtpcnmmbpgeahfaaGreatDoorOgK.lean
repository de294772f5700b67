/- Soundness: operations that write memory. -/
import Derived.Test.YtpcnmmbpgeahfaaGreatDoorOgP
import Derived.LoopN
set_option linter.unusedSimpArgs false
namespace Go.Og
variable {P : Program} {G : Nat → Bool} {R : Ren} {e : Env} {a : Act} {C : Cx} {σ : H} {w : World}

/-- A world that is another one in one block alone. -/
structure OneBlk (b : Nat) (w w' : World) : Prop where
  old : ∀ k, k ≠ b → w'.heap[k]? = w.heap[k]?
  size : w'.heap.size = w.heap.size
  os : w'.os = w.os
  tape : w'.tape = w.tape
  output : w'.output = w.output

theorem setCells_heap (b : Nat) : ∀ (vs : List Value) (o : Nat) (w : World) (arr : Array Value) (el : TypeId) (fr : Nat × Nat), w.heap[b]? = some (.cells arr el fr) →
    OneBlk b w (w.setCells b o vs) ∧ ∃ arr' : Array Value, (w.setCells b o vs).heap[b]? = some (.cells arr' el fr) ∧ arr'.size = arr.size ∧
      ∀ k, arr'[k]? = if o ≤ k ∧ k < o + vs.length ∧ k < arr.size then vs[k - o]? else arr[k]?
  | [], o, w, arr, el, fr, h => ⟨⟨fun _ _ => rfl, rfl, rfl, rfl, rfl⟩, arr, h, rfl, fun k => by rw [if_neg (by simp; omega)]⟩
  | v :: vs, o, w, arr, el, fr, h => by
    have h1 : (w.setCell ⟨b, o, none⟩ v).heap[b]? = some (.cells (arr.setIfInBounds o v) el fr) := by
      simp [World.setCell, Array.getElem?_modify, h]
    obtain ⟨h2, arr', h3, h4, h5⟩ := setCells_heap b vs (o + 1) _ _ el fr h1
    refine ⟨⟨fun k hk => ?_, ?_, h2.os, h2.tape, h2.output⟩, arr', h3, by rw [h4, Array.size_setIfInBounds], fun k => ?_⟩
    · rw [World.setCells, h2.old k hk]
      simp [World.setCell, Array.getElem?_modify, Ne.symm hk]
    · rw [World.setCells, h2.size, World.size_setCell]
    · rw [h5, Array.size_setIfInBounds, Array.getElem?_setIfInBounds]
      by_cases hk : o = k
      · subst hk
        rw [if_neg (by omega), if_pos rfl]
        by_cases hs : o < arr.size
        · rw [if_pos hs, if_pos (by simp; omega)]; simp
        · rw [if_neg hs, if_neg (by omega), Array.getElem?_eq_none (by omega)]
      · rw [if_neg hk]
        by_cases hc : o + 1 ≤ k ∧ k < o + 1 + vs.length ∧ k < arr.size
        · rw [if_pos hc, if_pos (by simp; omega)]
          have : k - o = (k - (o + 1)) + 1 := by omega
          rw [this, List.getElem?_cons_succ]
        · rw [if_neg hc, if_neg (by simp only [List.length_cons]; omega)]

theorem store_heap {b o lo hi : Nat} {arr : Array Value} {el : TypeId} (h : w.heap[b]? = some (.cells arr el (lo, hi))) (hf : ∀ off, off < arr.size → ¬ (lo ≤ off ∧ off < hi))
    {xs : List Value} (h1 : ∀ x ∈ xs, x.oneCell' = true) (hle : o + xs.length ≤ arr.size) :
    ∃ w', (storeCells ⟨b, o, none⟩ xs).run P w = .ok () w' ∧ OneBlk b w w' ∧ ∃ arr' : Array Value, w'.heap[b]? = some (.cells arr' el (lo, hi)) ∧ arr'.size = arr.size ∧
      ∀ k, arr'[k]? = if o ≤ k ∧ k < o + xs.length then xs[k - o]? else arr[k]? := by
  have hrun := run_storeCells_cells (P := P) b o xs 0 w
    (fun j hj => by
      rw [cell_at h, Nat.add_zero]
      have : o + j < arr.size := by omega
      simp [this])
    (fun j hj => by
      have hlt : o + j < arr.size := by omega
      simp only [World.frozen?, h, Nat.add_zero]
      have := hf (o + j) hlt
      simp; omega) h1
  obtain ⟨h2, arr', h3, h4, h5⟩ := setCells_heap b xs (o + 0) w arr el (lo, hi) h
  refine ⟨_, hrun, h2, arr', h3, h4, fun k => ?_⟩
  rw [h5]
  simp only [Nat.add_zero]
  by_cases hc : o ≤ k ∧ k < o + xs.length
  · rw [if_pos hc, if_pos (by omega)]
  · rw [if_neg hc, if_neg (by omega)]

theorem write_ok (hrel : Rel C R σ w) {b off : Nat} {l cs : List V} {xs : List Value} (hb : look σ.bl b = some (.cells l)) (hcs : concs R cs = some xs) (h1 : allOne cs = true)
    (hle : off + cs.length ≤ l.length) {i : BI} (hi : R b = some i) :
    ∃ w', (storeCells ⟨i.blk, i.shift + off, none⟩ xs).run P w = .ok () w' ∧ Rel C R (σ.set b (.cells (spl l off cs))) w' := by
  obtain ⟨j, hj, hO, arr, el, lo, hi', hblk, hold, hend, hlen, hf⟩ := hrel.own b _ hb
  rw [hi] at hj; cases hj
  have hxl := concs_length hcs
  have hone := allOne_ok h1 hcs
  obtain ⟨w', hrun, hw, arr', h3, h4, h5⟩ := store_heap (P := P) (o := i.shift + off) hblk hf hone (by omega)
  refine ⟨w', hrun, hrel.write hb hi ?_ hw.old hw.size hw.os hw.tape hw.output⟩
  refine ⟨arr', el, lo, hi', h3, ?_, by omega, by rw [spl_length]; exact hlen, fun o ho => hf o (by omega)⟩
  intro k v hk
  rw [spl_get] at hk
  by_cases hc : off ≤ k ∧ k < off + cs.length
  · rw [if_pos hc, if_pos (by omega)] at hk
    obtain ⟨x, hx, hkx⟩ := concs_get hcs hk
    refine ⟨x, hx, hone x (List.mem_of_getElem? hkx), ?_⟩
    rw [h5, if_pos (by omega)]
    rw [show i.shift + k - (i.shift + off) = k - off by omega]
    exact hkx
  · rw [if_neg hc] at hk
    obtain ⟨x, hx, ho, hkx⟩ := hold k v hk
    refine ⟨x, hx, ho, ?_⟩
    rw [h5, if_neg (by omega)]
    exact hkx

/-- What a slice, or a string, gives. -/
theorem src_ok (hrel : Rel C R σ w) {esz n : Nat} {x : V} {l : List V} {u : Value} (h : srcCells C.E σ esz x = some (n, l)) (hu : conc R x = some u) :
    ∃ xs, concs R l = some xs ∧ (∀ y ∈ xs, y.oneCell' = true) ∧ (Builtin.lenOf u).run P w = .ok n w ∧ xs.length = n * esz ∧
      ∀ m, m ≤ n → (Builtin.firstCells esz m u).run P w = .ok (xs.take (m * esz)).toArray w := by
  unfold srcCells at h
  split at h
  · cases h; cases hu
    exact ⟨[], rfl, by simp, rfl, by simp, fun m hm => by simp [Builtin.firstCells]⟩
  · cases h
    obtain ⟨i, _, _, rfl⟩ := conc_sle_inv hu
    refine ⟨[], rfl, by simp, rfl, by simp, fun m hm => ?_⟩
    have : m = 0 := by omega
    subst this
    simp [Builtin.firstCells, loadCells, loadCellsFrom]
  · rename_i b off len c
    simp only [Option.map_eq_some_iff] at h
    obtain ⟨l', hrd, heq⟩ := h
    cases heq
    obtain ⟨i, m, hi, rfl, _⟩ := conc_sl_inv hu
    obtain ⟨i', xs, hi', hc, hone, hlen, _, hcell⟩ := hrel.readN hrd
    rw [hi] at hi'; cases hi'
    refine ⟨xs, hc, hone, rfl, hlen, fun k hk => ?_⟩
    have hkl : k * esz ≤ xs.length := by rw [hlen]; exact Nat.mul_le_mul_right _ hk
    have hl := run_loadCells_list (P := P) w ⟨i.blk, i.shift + off, none⟩ (xs.take (k * esz)) (fun j v hj => by
      rw [List.getElem?_take] at hj
      split at hj
      · exact hcell j v hj
      · cases hj)
    rw [List.length_take, Nat.min_eq_left hkl] at hl
    simp only [Builtin.firstCells]
    exact hl
  · rename_i s
    split at h
    · rename_i he
      cases h; cases hu
      rw [← BS.length_toList]
      generalize s.toList = s at *
      have hsz : (ByteArray.mk s.toArray).size = s.length := by simp [ByteArray.size]
      refine ⟨_, ints_concs R s, by simp; intro x _; rfl, by simp [Builtin.lenOf, hsz], by simp [he], fun m hm => ?_⟩
      simp only [Builtin.firstCells, Sem.run_pure]
      congr 1
      apply Array.ext'
      rw [he, Nat.mul_one, ByteArray.data_extract]
      simp [List.map_take]
    · cases h
  · cases h

theorem le_nextcap {need old bytes : Nat} (h : old < need) (hg : growable need bytes = true) : Builtin.nextslicecap need old * bytes ≤ 281474976710656 ∧ (need : Int) ≤ 9223372036854775807 := by
  simp only [growable, Bool.and_eq_true, Nat.ble_eq] at hg
  exact ⟨growslice_fits h hg.1, by omega⟩

set_option maxHeartbeats 800000 in
/-- append that makes a new array. -/
theorem grow_ok (hrel : Rel C R σ w) {t u ty el : TypeId} {i : TypeInfo} {z : Value} (ht : P.underlying t = some (.slice el)) {du : TypeDesc} (hu : P.underlying u = some du)
    (hnot : du = .string ∨ ∃ d, du = .slice d) (hi : P.info? el = some i) (hz : i.zero = some z) (hzs : z.cells.size = i.size)
    {base : Option Addr} {sLen sCap n : Nat} {x : Value} {old new : List Value} {lo ln : List V}
    (hlo : concs R lo = some old) (hln : concs R ln = some new) (h1o : ∀ y ∈ old, y.oneCell' = true) (h1n : ∀ y ∈ new, y.oneCell' = true)
    (hold : old.length = sLen * i.size) (hnew : new.length = n * i.size)
    (hlen : (Builtin.lenOf x).run P w = .ok n w) (hgo : ∀ d, (Builtin.firstCells i.size sLen (.slice base sLen sCap)).run P { w with drawn := d } = .ok old.toArray { w with drawn := d })
    (hgn : ∀ d, (Builtin.firstCells i.size n x).run P { w with drawn := d } = .ok new.toArray { w with drawn := d })
    (hlt : sCap < sLen + n) (hgr : growable (sLen + n) i.bytes = true) (_hpos : 0 < i.size) :
    ∃ w' c, (Builtin.append_ #[t, u] ty #[.slice base sLen sCap, x]).run P w = .ok (.slice (some ⟨w.heap.size, 0, none⟩) (sLen + n) c) w' ∧
      Rel C (upd R σ.next ⟨w.heap.size, 0, c * i.size⟩) (σ.add (.cells (lo ++ ln))) w' ∧ sLen + n ≤ c := by
  obtain ⟨hfit, h63⟩ := le_nextcap hlt hgr
  have hzero : ∀ d, (zeroValue el).run P { w with drawn := d } = .ok z { w with drawn := d } := fun d => by simp [zeroValue, typeInfo, hi, hz]
  let c := (Question.appendCap (sLen + n) sCap el).cut (w.tape w.drawn (.appendCap (sLen + n) sCap el))
  have hc : sLen + n ≤ c := le_cut _ _ _ _
  let arr := old.toArray ++ new.toArray ++ Builtin.zeroCells z.cells (c - (sLen + n))
  let w1 : World := { w with drawn := w.drawn + 1 }
  have hrun : (Builtin.append_ #[t, u] ty #[.slice base sLen sCap, x]).run P w = .ok (.slice (some ⟨w.heap.size, 0, none⟩) (sLen + n) c) (w1.alloc (.cells arr el)) := by
    have hn1 : ¬ (sLen + n ≤ sCap) := by omega
    have h63' : ¬ (9223372036854775807 < ((sLen : Int) + (n : Int))) := by omega
    have hfit' : ¬ (281474976710656 < Builtin.nextslicecap (sLen + n) sCap * i.bytes) := by omega
    have hgo' : (Builtin.firstCells i.size sLen (.slice base sLen sCap)).run P w.drew = .ok old.toArray w.drew := hgo _
    have hgn' : (Builtin.firstCells i.size n x).run P w.drew = .ok new.toArray w.drew := hgn _
    rcases hnot with rfl | ⟨d, rfl⟩
    all_goals simp [Builtin.append_, run_underlying ht, run_underlying hu, sizeOf, typeInfo, zeroValue, hi, hz, hlen, hn1, h63', hfit', Question.forced, hgo', hgn', newRow, c, arr, w1]
  refine ⟨_, c, hrun, ?_, hc⟩
  have hrel1 : Rel C R σ w1 := hrel.drawn _
  refine hrel1.alloc (NewBlk.of_alloc w1 _) _ _ rfl ?_
  have hcs := concs_append hlo hln
  have hle : Le R (upd R σ.next ⟨w.heap.size, 0, c * i.size⟩) := (upd_ext R σ.next _).le hrel.fresh
  have hlen2 := concs_length hcs
  have hmul : (sLen + n) * i.size = sLen * i.size + n * i.size := Nat.add_mul _ _ _
  have hml : (sLen + n) * i.size ≤ c * i.size := Nat.mul_le_mul_right _ hc
  refine own_alloc (heap_alloc_at w1 _) (concs_mono hle _ _ hcs) (fun y hy => ?_) (fun k hk => ?_) ?_ ?_ (fun _ _ h => by omega)
  · rcases List.mem_append.1 hy with h | h
    · exact h1o y h
    · exact h1n y h
  · have : arr = (old ++ new).toArray ++ Builtin.zeroCells z.cells (c - (sLen + n)) := by apply Array.ext'; simp [arr]
    rw [this, Array.getElem?_append_left (by simpa using hk)]
    simp
  · simp only [arr, Array.size_append, List.size_toArray, Builtin.zeroCells, Array.size_map, Array.size_range, hzs]
    have : c * i.size = (sLen + n) * i.size + (c - (sLen + n)) * i.size := by rw [← Nat.add_mul]; congr 1; omega
    omega
  · show (lo ++ ln).length ≤ c * i.size
    rw [← hlen2, List.length_append]; omega
end Go.Og

set_option linter.unusedSimpArgs false
namespace Go.Og
variable {P : Program} {G : Nat → Bool} {R : Ren} {e : Env} {a : Act} {C : Cx} {σ : H} {w : World}

set_option maxHeartbeats 800000 in
/-- append that fits. -/
theorem run_append_fits {t u ty el : TypeId} {i : TypeInfo} (ht : P.underlying t = some (.slice el)) {du : TypeDesc} (hu : P.underlying u = some du)
    (hnot : du = .string ∨ ∃ d, du = .slice d) (hi : P.info? el = some i) {base : Option Addr} {sLen sCap n : Nat} {x : Value} {new : Array Value}
    (hlen : (Builtin.lenOf x).run P w = .ok n w) (hle : sLen + n ≤ sCap) (hgn : (Builtin.firstCells i.size n x).run P w = .ok new w) {w' : World}
    (hst : ∀ b, base = some b → (storeCells (b.add (sLen * i.size)) new.toList).run P w = .ok () w') (hno : base = none → w' = w) :
    (Builtin.append_ #[t, u] ty #[.slice base sLen sCap, x]).run P w = .ok (.slice base (sLen + n) sCap) w' := by
  cases base with
  | none =>
    obtain rfl := hno rfl
    rcases hnot with rfl | ⟨d, rfl⟩
    all_goals simp [Builtin.append_, run_underlying ht, run_underlying hu, sizeOf, typeInfo, zeroValue, hi, hlen, hle, hgn]
  | some b =>
    have hst' := hst b rfl
    rcases hnot with rfl | ⟨d, rfl⟩
    all_goals simp [Builtin.append_, run_underlying ht, run_underlying hu, sizeOf, typeInfo, zeroValue, hi, hlen, hle, hgn, hst']

theorem storeCells_nil (b : Addr) : (storeCells b []).run P w = .ok () w := rfl

theorem allOne_of_append {l m : List V} (h : allOne (l ++ m) = true) : allOne l = true ∧ allOne m = true := by
  induction l with
  | nil => exact ⟨rfl, h⟩
  | cons v l ih =>
    simp only [List.cons_append, allOne, Bool.and_eq_true] at h ⊢
    exact ⟨⟨h.1, (ih h.2).1⟩, (ih h.2).2⟩

/-- What an operation that writes answers. -/
def KOk (P : Program) (C : Cx) (R : Ren) (σ : H) (s : Sem Next) (w : World) (v : V) (σ' : H) : Prop :=
  ∃ R' w' x, Ext σ.next R R' ∧ σ.next ≤ σ'.next ∧ Rel C R' σ' w' ∧ (v = .dead ∨ conc R' v = some x) ∧ (s.run P w = .ok (.value x) w' ∨ (s.run P w = .ok .skip w' ∧ v = .dead))

theorem appendV_ok (hrel : Rel C R σ w) {t u ty el : TypeId} {i : TypeInfo} {z : Value} (ht : P.underlying t = some (.slice el)) {du : TypeDesc} (hu : P.underlying u = some du)
    (hnot : du = .string ∨ ∃ d, du = .slice d) (hi : P.info? el = some i) (hz : i.zero = some z) (hzs : z.cells.size = i.size) (hpos : 0 < i.size)
    {s x : V} {sv xv : Value} (hs : s.live = true → conc R s = some sv) (hx : x.live = true → conc R x = some xv) {v : V} {σ' : H}
    (h : appendV C.E i.size i.bytes s x σ = some (v, σ')) :
    ∃ R' w' y, Ext σ.next R R' ∧ σ.next ≤ σ'.next ∧ Rel C R' σ' w' ∧ conc R' v = some y ∧ (Builtin.append_ #[t, u] ty #[sv, xv]).run P w = .ok y w' := by
  unfold appendV at h
  cases hsrc : srcCells C.E σ i.size x with
  | none => rw [hsrc] at h; cases h
  | some q =>
    obtain ⟨n, new⟩ := q
    rw [hsrc] at h
    simp only at h
    have hxl : x.live = true := by unfold srcCells at hsrc; split at hsrc <;> first | rfl | cases hsrc
    have hxc := hx hxl
    obtain ⟨xs, hnc, hnone, hlen, hxlen, hfirst⟩ := src_ok (P := P) hrel hsrc hxc
    have hfn := hfirst n (Nat.le_refl _)
    rw [List.take_of_length_le (by omega)] at hfn
    have hfd : ∀ d, (Builtin.firstCells i.size n xv).run P { w with drawn := d } = .ok xs.toArray { w with drawn := d } := fun d => by
      obtain ⟨xs', hnc', _, _, hxlen', hfirst'⟩ := src_ok (P := P) (hrel.drawn d) hsrc hxc
      rw [hnc] at hnc'; cases hnc'
      have := hfirst' n (Nat.le_refl _)
      rwa [List.take_of_length_le (by omega)] at this
    have hnl := concs_length hnc
    split at h
    · -- nil
      have hsv := hs rfl
      simp only [conc, Option.some.injEq] at hsv
      subst hsv
      split at h
      · rename_i hn0
        cases h
        subst hn0
        have hxs : xs = [] := List.eq_nil_of_length_eq_zero (by omega)
        subst hxs
        refine ⟨R, w, _, Ext.refl _ _, Nat.le_refl _, hrel, rfl, ?_⟩
        have := run_append_fits (P := P) (ty := ty) (base := none) (sLen := 0) (sCap := 0) ht hu hnot hi hlen (Nat.le_refl _) hfn (w' := w) (fun b e => by cases e) (fun _ => rfl)
        exact this
      · rename_i hn0
        split at h
        · rename_i hg
          cases h
          obtain ⟨w', c, hrun, hrel', hc⟩ := grow_ok (P := P) (ty := ty) (base := none) (sLen := 0) (sCap := 0) (old := []) (lo := []) hrel ht hu hnot hi hz hzs rfl hnc (by simp) hnone (by simp) hxlen hlen (fun d => by simp [Builtin.firstCells]) hfd (by omega) (by simpa using hg) hpos
          simp only [List.nil_append, Nat.zero_add] at hrel' hrun hc
          refine ⟨_, w', _, upd_ext _ _ _, Nat.le_succ _, hrel', conc_sl_op (upd_same _ _ _) (by simp [BI.cap, Nat.mul_div_cancel _ hpos]; exact hc), ?_⟩
          rw [hrun]
          simp [BI.cap, Nat.mul_div_cancel _ hpos]
        · cases h
    · -- a capacity that is known
      rename_i b off len c
      have hsv := hs rfl
      obtain ⟨j, m, hj, rfl, hex, _⟩ := conc_sl_inv hsv
      obtain rfl := hex c rfl
      split at h
      · rename_i hle
        simp only [Nat.ble_eq] at hle
        split at h
        · rename_i hn0
          cases h
          subst hn0
          have hxs : xs = [] := List.eq_nil_of_length_eq_zero (by omega)
          subst hxs
          exact ⟨R, w, _, Ext.refl _ _, Nat.le_refl _, hrel, hsv, run_append_fits (P := P) (ty := ty) ht hu hnot hi hlen hle hfn (w' := w) (fun b e => rfl) (fun e => by cases e)⟩
        · split at h
          · rename_i l hl
            split at h
            · rename_i hcond
              simp only [Bool.and_eq_true, Nat.ble_eq] at hcond
              cases h
              have hmul : (len + n) * i.size = len * i.size + n * i.size := Nat.add_mul _ _ _
              obtain ⟨w', hst, hrel'⟩ := write_ok (P := P) hrel (off := off + len * i.size) hl hnc hcond.2 (by omega) hj
              refine ⟨R, w', _, Ext.refl _ _, Nat.le_refl _, hrel', conc_sl_ex hj, run_append_fits (P := P) (ty := ty) ht hu hnot hi hlen hle hfn (w' := w') (fun b e => ?_) (fun e => by cases e)⟩
              cases e
              rw [add_eq, Nat.add_assoc]
              exact hst
            · cases h
          · cases h
      · rename_i hle
        simp only [Nat.ble_eq] at hle
        split at h
        · rename_i hg
          split at h
          · rename_i old hold
            cases h
            obtain ⟨j', ys, hj', hyc, hyone, hyl, _, hcell⟩ := hrel.readN hold
            rw [hj] at hj'; cases hj'
            obtain ⟨w', c', hrun, hrel', hc⟩ := grow_ok (P := P) (ty := ty) (base := some ⟨j.blk, j.shift + off, none⟩) (sLen := len) (sCap := m) hrel ht hu hnot hi hz hzs hyc hnc hyone hnone hyl hxlen hlen (fun d => by
              have := run_firstCells_some (P := P) { w with drawn := d } i.size len ⟨j.blk, j.shift + off, none⟩ len m ys hyl (fun k v hk => hcell k v hk)
              exact this) hfd (by omega) hg hpos
            refine ⟨_, w', _, upd_ext _ _ _, Nat.le_succ _, hrel', conc_sl_op (upd_same _ _ _) (by simp [BI.cap, Nat.mul_div_cancel _ hpos]; exact hc), ?_⟩
            rw [hrun]
            simp [BI.cap, Nat.mul_div_cancel _ hpos]
          · cases h
        · cases h
    · -- one that is not
      rename_i b len z'
      have hsv := hs rfl
      obtain ⟨j, m, hj, rfl, _, hop⟩ := conc_sl_inv hsv
      obtain ⟨hm, hlm⟩ := hop z' rfl
      split at h
      · rename_i hn0
        cases h
        subst hn0
        have hxs : xs = [] := List.eq_nil_of_length_eq_zero (by omega)
        subst hxs
        exact ⟨R, w, _, Ext.refl _ _, Nat.le_refl _, hrel, hsv, run_append_fits (P := P) (ty := ty) ht hu hnot hi hlen hlm hfn (w' := w) (fun b e => rfl) (fun e => by cases e)⟩
      · rename_i hn0
        split at h
        · rename_i l hl
          split at h
          · rename_i hcond
            simp only [Bool.and_eq_true, Nat.beq_eq] at hcond
            obtain ⟨⟨⟨hll, hze⟩, hg⟩, hone⟩ := hcond
            subst hze
            cases h
            obtain ⟨j', hj', hO, arr, el', lo, hi', hblk, hold, hend, hlen', hf⟩ := hrel.own b _ hl
            rw [hj] at hj'; cases hj'
            by_cases hfit : len + n ≤ m
            · -- in place
              have hmul : (len + n) * i.size = len * i.size + n * i.size := Nat.add_mul _ _ _
              have hroom : (len + n) * i.size ≤ j.endc := by
                have h1 : (len + n) * i.size ≤ m * i.size := Nat.mul_le_mul_right _ hfit
                have h2 : m * i.size ≤ j.endc := by rw [hm]; simpa [BI.cap] using Nat.div_mul_le_self j.endc i.size
                omega
              obtain ⟨w', hst, hw, arr', h3, h4, h5⟩ := store_heap (P := P) (o := j.shift + len * i.size) hblk hf hnone (by omega)
              have hle : Le R (upd R σ.next j) := (upd_ext R σ.next j).le hrel.fresh
              have hrel' : Rel C (upd R σ.next j) ((σ.del b).add (.cells (l ++ new))) w' := by
                refine hrel.rename hl hj ?_ hw.old hw.size hw.os hw.tape hw.output
                refine ⟨arr', el', lo, hi', h3, ?_, by omega, by rw [List.length_append]; omega, fun o ho => hf o (by omega)⟩
                intro k v hk
                by_cases hkl : k < l.length
                · rw [List.getElem?_append_left hkl] at hk
                  obtain ⟨y, hy, ho, hky⟩ := hold k v hk
                  refine ⟨y, conc_mono hle _ _ hy, ho, ?_⟩
                  rw [h5, if_neg (by omega)]
                  exact hky
                · rw [List.getElem?_append_right (by omega)] at hk
                  obtain ⟨y, hy, hky⟩ := concs_get hnc hk
                  have hlt : k - l.length < xs.length := by
                    rcases Nat.lt_or_ge (k - l.length) xs.length with h | h
                    · exact h
                    · rw [List.getElem?_eq_none h] at hky; cases hky
                  refine ⟨y, conc_mono hle _ _ hy, hnone y (List.mem_of_getElem? hky), ?_⟩
                  rw [h5, if_pos (by omega)]
                  rw [show j.shift + k - (j.shift + len * i.size) = k - l.length by omega]
                  exact hky
              refine ⟨_, w', _, upd_ext _ _ _, Nat.le_succ _, hrel', conc_sl_op (upd_same _ _ _) (by simpa [hm] using hfit), ?_⟩
              have := run_append_fits (P := P) (ty := ty) (base := some ⟨j.blk, j.shift + 0, none⟩) ht hu hnot hi hlen hfit hfn (w' := w') (fun b e => by cases e; rw [add_eq, Nat.add_zero]; exact hst) (fun e => by cases e)
              rw [this]
              simp [hm]
            · -- a new array
              have hrd : rdN C.E σ b 0 (len * i.size) = some l := by
                simp [rdN, rd, hl, hll, List.take_of_length_le (Nat.le_of_eq hll)]
              obtain ⟨j', ys, hj', hyc, hyone, hyl, _, hcell⟩ := hrel.readN hrd
              rw [hj] at hj'; cases hj'
              obtain ⟨w', c', hrun, hrel', hc⟩ := grow_ok (P := P) (ty := ty) (base := some ⟨j.blk, j.shift + 0, none⟩) (sLen := len) (sCap := m) hrel ht hu hnot hi hz hzs hyc hnc hyone hnone hyl hxlen hlen (fun d => by
                have := run_firstCells_some (P := P) { w with drawn := d } i.size len ⟨j.blk, j.shift + 0, none⟩ len m ys hyl (fun k v hk => hcell k v hk)
                exact this) hfd (by omega) hg hpos
              have hrel'' : Rel C (upd R σ.next ⟨w.heap.size, 0, c' * i.size⟩) ((σ.del b).add (.cells (l ++ new))) w' := by
                have := hrel'.del b
                have hne : ¬ σ.next = b := by have := hrel.next_of_own hl; omega
                simpa [H.del, H.add, drop, hne] using this
              refine ⟨_, w', _, upd_ext _ _ _, Nat.le_succ _, hrel'', conc_sl_op (upd_same _ _ _) (by simp [BI.cap, Nat.mul_div_cancel _ hpos]; exact hc), ?_⟩
              rw [hrun]
              simp [BI.cap, Nat.mul_div_cancel _ hpos]
          · cases h
        · cases h
    · rename_i b off len z' _
      have hsv := hs rfl
      obtain ⟨j, m, hj, rfl, _, hop⟩ := conc_sl_inv hsv
      obtain ⟨hm, hlm⟩ := hop z' rfl
      split at h
      · rename_i hn0
        cases h
        subst hn0
        have hxs : xs = [] := List.eq_nil_of_length_eq_zero (by omega)
        subst hxs
        exact ⟨R, w, _, Ext.refl _ _, Nat.le_refl _, hrel, hsv, run_append_fits (P := P) (ty := ty) ht hu hnot hi hlen hlm hfn (w' := w) (fun b e => rfl) (fun e => by cases e)⟩
      · cases h
    · cases h

theorem src_live {E : List (Nat × Blk)} {esz n : Nat} {x : V} {l : List V} (h : srcCells E σ esz x = some (n, l)) : x.live = true := by
  unfold srcCells at h
  split at h <;> first | rfl | cases h

theorem KOk.value {s : Sem Value} {v : V} {σ' : H} (h : ∃ R' w' x, Ext σ.next R R' ∧ σ.next ≤ σ'.next ∧ Rel C R' σ' w' ∧ conc R' v = some x ∧ s.run P w = .ok x w') :
    KOk P C R σ (do pure (Next.value (← s)) : Sem Next) w v σ' := by
  obtain ⟨R', w', x, h1, h2, h3, h4, h5⟩ := h
  exact ⟨R', w', x, h1, h2, h3, .inr h4, .inl (by simp [h5])⟩

theorem MapHolds.snoc {R : Ren} {k v : V} {e : MapEntry} (hk : conc R k = some e.key) (hv : conc R v = some e.val) : ∀ {l : List (V × V)} {es : List MapEntry}, MapHolds R l es → MapHolds R (l ++ [(k, v)]) (es ++ [e])
  | [], [], _ => ⟨hk, hv, trivial⟩
  | (_, _) :: _, _ :: _, ⟨h1, h2, h3⟩ => ⟨h1, h2, MapHolds.snoc hk hv h3⟩
  | [], _ :: _, h => h.elim
  | _ :: _, [], h => h.elim
theorem aopK_ok (hrel : Rel C R σ w) (he : EnvOk R e a.tmps) (o : Oper) {v : V} {σ' : H} (h : aopK C.E (compOp P C.G o.op) e σ = some (v, σ')) :
    KOk P C R σ (execOp a.eval o) w v σ' := by
  have hg := hrel.globOk
  obtain ⟨dst, op, ty, pos, after, guard⟩ := o
  simp only at h
  cases op with
  | store t x y =>
    simp only [compOp] at h
    cases hs : sizeO P t with
    | none => rw [hs] at h; simp only [aopK] at h; cases h
    | some n =>
      rw [hs] at h
      cases n with
      | zero =>
        simp only [aopK] at h
        split at h
        · rename_i b off hx hy
          simp only [Option.some.injEq, Prod.mk.injEq] at h
          obtain ⟨rfl, rfl⟩ := h
          obtain ⟨j, hj, hev⟩ := ev_ptr (a := a) he hg hx
          obtain ⟨l, hl, hevy⟩ := ev_agg (a := a) he hg hy
          simp only [concs, Option.some.injEq] at hl; subst hl
          refine ⟨R, w, undef, Ext.refl _ _, Nat.le_refl _, hrel, .inl rfl, .inr ⟨?_, rfl⟩⟩
          simp only [execOp]
          unfold Instr.storeAt storeVar
          simp [hev, hevy, Instr.sureAddr, run_sizeO hs w, Value.cells, storeCells_nil]
        · cases h
      | succ n =>
      simp only [aopK] at h
      split at h
      · rename_i b off hx
        split at h
        · rename_i l hl
          split at h
          · rename_i hcond
            simp only [Bool.and_eq_true, Nat.beq_eq, Nat.ble_eq] at hcond
            obtain ⟨⟨hn, hle⟩, hone⟩ := hcond
            cases h
            obtain ⟨j, hj, hev⟩ := ev_ptr (a := a) he hg hx
            have hyl : (opv e (compO C.G y)).live = true := by
              cases hy : opv e (compO C.G y) with
              | dead => rw [hy] at hone; simp [V.cells, allOne, V.one] at hone
              | _ => rfl
            have hcs := conc_cells (ev (a := a) he hg rfl hyl)
            have hlen := concs_length hcs
            obtain ⟨w', hst, hrel'⟩ := write_ok (P := P) hrel (off := off) hl hcs hone (by omega) hj
            refine ⟨R, w', undef, Ext.refl _ _, Nat.le_refl _, hrel', .inl rfl, .inr ⟨?_, rfl⟩⟩
            simp only [Array.length_toList] at hlen
            have hsz : ¬ ((a.eval y).cells.size ≠ n + 1) := by omega
            simp only [execOp]
            unfold Instr.storeAt storeVar
            simp only [Sem.run_bind, hev, Instr.sureAddr, Sem.run_pure, Result.andThen_ok, run_sizeO hs w]
            rw [if_neg hsz]
            simp [hst]
          · cases h
        · cases h
      · cases h
  | call c =>
    obtain ⟨callee, args, argTypes⟩ := c
    cases callee with
    | value f => cases f <;> (simp only [compOp, aopK] at h; cases h)
    | invoke r m => simp only [compOp, aopK] at h; cases h
    | builtin b =>
      have hcall : ∀ {v σ'}, KOk P C R σ (builtin b argTypes ty (args.map fun | .const _ => true | _ => false) (args.map a.eval)) w v σ' → KOk P C R σ (execOp a.eval ⟨dst, .call ⟨.builtin b, args, argTypes⟩, ty, pos, after, guard⟩) w v σ' := by
        rintro v σ' ⟨R', w', x, h1, h2, h3, h4, h5⟩
        refine ⟨R', w', x, h1, h2, h3, h4, ?_⟩
        simp only [execOp, resolve, Sem.run_bind, Sem.run_pure, Result.andThen_ok, invoke]
        exact h5
      apply hcall
      simp only [compOp] at h
      obtain ⟨args⟩ := args
      obtain ⟨argTypes⟩ := argTypes
      generalize (Array.map (fun | Operand.const _ => true | _ => false) (⟨args⟩ : Array Operand)) = lits
      unfold compB at h
      split at h
      · (repeat' split at h) <;> (simp only [aopK] at h; cases h)
      · (repeat' split at h) <;> (simp only [aopK] at h; cases h)
      · -- append
        rename_i t u os ox hts has
        simp only at hts has
        subst hts has
        split at h
        · rename_i el du hu hdu
          split at h
          · rename_i i hi
            split at h
            · rename_i z hz
              split at h
              · simp only [aopK] at h; cases h
              · rename_i hcond
                simp only [Bool.not_eq_true, Bool.or_eq_false_iff, Bool.not_eq_false', bne_eq_false_iff_eq, beq_eq_false_iff_ne] at hcond
                obtain ⟨⟨hseq, hpos⟩, hzs⟩ := hcond
                have hnot : du = .string ∨ ∃ d, du = .slice d := by
                  cases du <;> first | exact .inl rfl | exact .inr ⟨_, rfl⟩ | cases hseq
                simp only [aopK] at h
                simp only [builtin]
                rw [show Array.map a.eval ⟨[os, ox]⟩ = #[a.eval os, a.eval ox] from by simp]
                apply KOk.value
                exact appendV_ok (P := P) (ty := ty) hrel hu hdu hnot hi hz hzs (by omega) (fun hl => ev (a := a) he hg rfl hl) (fun hl => ev (a := a) he hg rfl hl) h
            · simp only [aopK] at h; cases h
          · simp only [aopK] at h; cases h
        · simp only [aopK] at h; cases h
      · -- copy
        rename_i t u od os hts has
        simp only at hts has
        subst hts has
        split at h
        · rename_i el du hu hdu
          split at h
          · rename_i i hi
            simp only [aopK] at h
            simp only [builtin]
            rw [show Array.map a.eval ⟨[od, os]⟩ = #[a.eval od, a.eval os] from by simp]
            apply KOk.value
            have hsz : (sizeOf el).run P w = .ok i.size w := by simp [sizeOf, typeInfo, hi]
            have hsrcl : ∀ {n l}, srcCells C.E σ i.size (opv e (compO C.G os)) = some (n, l) → (opv e (compO C.G os)).live = true := src_live
            split at h
            · rename_i n l hd hsrc
              cases h
              have hdc := ev (a := a) he hg hd rfl
              simp only [conc, Option.some.injEq] at hdc
              obtain ⟨xs, _, _, hlen, _, hfirst⟩ := src_ok (P := P) hrel hsrc (ev (a := a) he hg rfl (hsrcl hsrc))
              refine ⟨R, w, _, Ext.refl _ _, Nat.le_refl _, hrel, rfl, ?_⟩
              have h0 := hfirst 0 (Nat.zero_le _)
              rw [← hdc]
              simp [Builtin.copy_, run_underlying hu, hlen, hsz, h0, goInt]
            · rename_i b off k z n l hd hsrc
              cases h
              obtain ⟨j, _, _, hev⟩ := conc_sle_inv (ev (a := a) he hg hd rfl)
              obtain ⟨xs, _, _, hlen, _, hfirst⟩ := src_ok (P := P) hrel hsrc (ev (a := a) he hg rfl (hsrcl hsrc))
              refine ⟨R, w, _, Ext.refl _ _, Nat.le_refl _, hrel, rfl, ?_⟩
              have h0 := hfirst 0 (Nat.zero_le _)
              rw [hev]
              simp [Builtin.copy_, run_underlying hu, hlen, hsz, h0, goInt, storeCells_nil]
            · rename_i b off len c n src hd hsrc
              obtain ⟨j, m, hj, hev, _⟩ := conc_sl_inv (ev (a := a) he hg hd rfl)
              obtain ⟨xs, hxc, hxone, hlen, hxlen, hfirst⟩ := src_ok (P := P) hrel hsrc (ev (a := a) he hg rfl (hsrcl hsrc))
              have hf := hfirst (Nat.min n len) (Nat.min_le_left _ _)
              split at h
              · rename_i h0
                cases h
                rw [h0] at hf
                refine ⟨R, w, _, Ext.refl _ _, Nat.le_refl _, hrel, rfl, ?_⟩
                rw [hev]
                simp [Builtin.copy_, run_underlying hu, hlen, hsz, h0, hf, goInt, storeCells_nil]
              · split at h
                · rename_i l hl
                  split at h
                  · rename_i hcond
                    simp only [Bool.and_eq_true, Nat.ble_eq] at hcond
                    cases h
                    have htk := concs_take hxc (Nat.min n len * i.size)
                    have htl := concs_length hxc
                    have hmm : Nat.min n len * i.size ≤ n * i.size := Nat.mul_le_mul_right _ (Nat.min_le_left _ _)
                    obtain ⟨w', hst, hrel'⟩ := write_ok (P := P) hrel (off := off) hl htk hcond.2 (by rw [List.length_take]; omega) hj
                    refine ⟨R, w', _, Ext.refl _ _, Nat.le_refl _, hrel', rfl, ?_⟩
                    rw [hev]
                    simp [Builtin.copy_, run_underlying hu, hlen, hsz, hf, goInt, hst]
                  · cases h
                · cases h
            · cases h
          · simp only [aopK] at h; cases h
        · simp only [aopK] at h; cases h
      · simp only [aopK] at h; cases h
      · simp only [aopK] at h; cases h
      · simp only [aopK] at h; cases h
  | mapUpdate t x y z =>
    simp only [compOp] at h
    split at h
    · rename_i kt vt hut
      simp only [aopK] at h
      unfold mapsetV at h
      split at h
      · rename_i b hb
        split at h
        · rename_i l hl
          split at h
          · rename_i hc
            simp only [Bool.and_eq_true] at hc
            split at h
            · rename_i hf
              simp only [Option.some.injEq, Prod.mk.injEq] at h
              obtain ⟨rfl, rfl⟩ := h
              obtain ⟨hlk, fs, hfs⟩ := keyOk_flat hc.1
              have hkv := ev (a := a) he hg rfl hlk
              have hvv := ev (a := a) he hg rfl hc.2
              obtain ⟨i, es, clock, hi, hw, hmh⟩ := hrel.mapAt hl
              obtain ⟨j, hj, hmv⟩ := conc_mp_inv (ev (a := a) he hg hb rfl)
              rw [hi] at hj; cases hj
              have hget : (getObj i.blk).run P w = .ok (.map es clock) w := by simp [getObj, Sem.run, hw]
              have hck := checkKey_ok (P := P) hc.1 hkv false w
              have hfa := findM_ok hfs hkv w 0 hf hmh
              simp only at hfa
              have hset : ∀ o, (setObj i.blk o).run P w = .ok () { w with heap := w.heap.setIfInBounds i.blk o } := fun o => by simp [setObj, Sem.run, hw]
              have hlt : i.blk < w.heap.size := (Array.getElem?_eq_some_iff.1 hw).1
              refine ⟨R, { w with heap := w.heap.setIfInBounds i.blk (.map (es.push { key := a.eval y, val := a.eval z, born := clock }) (clock + 1)) }, undef, Ext.refl _ _, Nat.le_refl _, hrel.write hl hi ?_ ?_ ?_ rfl rfl rfl, .inl rfl, .inr ⟨?_, rfl⟩⟩
              · exact ⟨es.push { key := a.eval y, val := a.eval z, born := clock }, clock + 1, by simp [hlt], by simpa using MapHolds.snoc (e := { key := a.eval y, val := a.eval z, born := clock }) hkv hvv hmh⟩
              · intro k hk
                simp [Ne.symm hk]
              · simp
              · simp only [execOp]
                unfold Instr.mapUpdate
                simp [hmv, run_underlying hut, hget, hck, findKey_eq hfs, hfa, hset]
            · cases h
          · cases h
        · cases h
      · cases h
    · simp only [aopK] at h; cases h
  | makeMap t r => cases r <;> (simp only [compOp, aopK] at h; cases h)
  | lookup t x y ok => cases ok <;> simp only [compOp] at h <;> first | (simp only [aopK] at h; cases h; done) | ((repeat' split at h) <;> (simp only [aopK] at h; cases h))
  | move x => simp only [compOp, aopK] at h; cases h
  | assign x => simp only [compOp, aopK] at h; cases h
  | makeFunc f x y => cases f <;> (simp only [compOp, aopK] at h; cases h)
  | _ => simp only [compOp] at h; first | (simp only [aopK] at h; cases h; done) | ((repeat' split at h) <;> (simp only [aopK] at h; cases h))
end Go.Og

set_option linter.unusedSimpArgs false
namespace Go.Og

inductive AX where
  | normal | exit (id : Nat) | ret
  deriving DecidableEq, Inhabited

/-- Rounds of a loop. -/
def iter (f : Env → H → Option (AX × Env × H)) : Nat → Env → H → Option (AX × Env × H)
  | 0, _, _ => none
  | n + 1, e, σ => match f e σ with
    | none => none
    | some (.normal, e', σ') => iter f n e' σ'
    | some (x, e', σ') => some (x, e', σ')

/-- The evaluator of a region whose order is open: OgW says when it is right. -/
abbrev DrawFn := List AOper → List DP → Env → H → Option (Env × H)

def den (E : List (Nat × Blk)) (D : Den) (W : DrawFn) (N : Nat) : AC → Env → H → Option (AX × Env × H)
  | .skip, e, σ => some (.normal, e, σ)
  | .region ops, e, σ => match denOps E D ops e σ with
    | some (e', σ') => some (.normal, e', σ')
    | none => none
  | .draw ops ms, e, σ => match W ops ms e σ with
    | some (e', σ') => some (.normal, e', σ')
    | none => none
  | .seq a b, e, σ => match den E D W N a e σ with
    | some (.normal, e', σ') => den E D W N b e' σ'
    | some (x, e', σ') => some (x, e', σ')
    | none => none
  | .cond c a b, e, σ => match opv e c with
    | .bool true => den E D W N a e σ
    | .bool false => den E D W N b e σ
    | _ => none
  | .block id c, e, σ => match den E D W N c e σ with
    | some (.exit j, e', σ') => if Nat.beq j id then some (.normal, e', σ') else some (.exit j, e', σ')
    | some (x, e', σ') => some (x, e', σ')
    | none => none
  | .loop c, e, σ => iter (den E D W N c) N e σ
  | .exit id, e, σ => some (.exit id, e, σ)
  | .ret, e, σ => some (.ret, e, σ)
  | .keep ts c, e, σ => den E D W N c (restr ts e) σ
  | .bad, _, _ => none

def resV (E : List (Nat × Blk)) (e : Env) (σ : H) : List AR → Option (List V)
  | [] => some []
  | .tmp t :: l => match (getE e t).live, resV E e σ l with
    | true, some r => some (getE e t :: r)
    | _, _ => none
  | .cell t n :: l => match getE e t, resV E e σ l with
    | .ptr b off, some r => match n with
      | none => match rd E σ b with
        | some cs => match cs[off]? with
          | some v => some (v :: r)
          | none => none
        | none => none
      | some n => match rdN E σ b off n with
        | some cs => some (.agg cs :: r)
        | none => none
    | _, _ => none

def freeAll : List Nat → Env → H → H
  | [], _, σ => σ
  | t :: l, e, σ => freeAll l e (match getE e t with
    | .ptr b 0 => σ.del b
    | _ => σ)

def oneV : List V → V
  | [v] => v
  | l => .tup l

/-- The temporaries of a call: its arguments. -/
def argE : Nat → List V → Env
  | _, [] => []
  | k, v :: l => (k, v) :: argE (k + 1) l

def runFn (E : List (Nat × Blk)) (D : Den) (W : DrawFn) (N : Nat) (f : AFn) (args : List V) (σ : H) : Option (V × H) :=
  match den E D W N f.body (argE 0 args) σ with
  | some (.exit _, _, _) => none
  | some (_, e, σ') => match resV E e σ' f.results with
    | some l => some (oneV l, freeAll f.frees e σ')
    | none => none
  | none => none

variable {P : Program} {G : Nat → Bool} {E : List (Nat × Blk)}

/-- What D answers, the model's function answers. -/
def SoundFn (P : Program) (E : List (Nat × Blk)) (G : Nat → Bool) (f : FuncId) (D : List V → H → Option (V × H)) : Prop :=
  ∀ (C : Cx), C.E = E → C.G = G → ∀ (R : Ren) (σ : H) (w : World) (args : List V) (xs : List Value) (v : V) (σ' : H), D args σ = some (v, σ') → Rel C R σ w → concs R args = some xs →
    callOk P f = true ∧ Calls P f xs.toArray w fun en w' => ∃ R' x, Ext σ.next R R' ∧ σ.next ≤ σ'.next ∧ Rel C R' σ' w' ∧ conc R' v = some x ∧ en = .returned x

theorem Ext.trans' {n m : Nat} {R S T : Ren} (h : Ext n R S) (hn : n ≤ m) (k : Ext m S T) : Ext n R T := h.trans k hn

theorem EnvOk.put {R : Ren} {e : Env} {a : Act} (h : EnvOk R e a.tmps) {dst : Option Nat} (hd : dstOk a.tmps.size dst = true) {v : V} {x : Value} (hv : v = .dead ∨ conc R v = some x) : EnvOk R (putE e dst v) (a.put dst x).tmps := by
  cases dst with
  | none => exact h
  | some d =>
    simp only [dstOk, Nat.blt_eq] at hd
    refine ⟨fun k u hk => ?_⟩
    simp only [putE, look] at hk
    simp only [Act.put, Array.getElem?_setIfInBounds]
    by_cases hdk : d = k
    · subst hdk
      rw [if_pos (by simp)] at hk
      cases hk
      rw [if_pos rfl, if_pos hd]
      exact hv.imp id fun h => ⟨x, rfl, h⟩
    · rw [if_neg (by simpa using hdk)] at hk
      rw [if_neg hdk]
      exact h.at_ k u hk
theorem look_restr (ls : List Nat) (e : Env) (t : Nat) (v : V) (h : look (restr ls e) t = some v) : look e t = some v ∧ memN ls t = true := by
  induction ls with
  | nil => simp [restr, look] at h
  | cons a ls ih =>
    simp only [restr] at h
    simp only [memN, Bool.or_eq_true, Nat.beq_eq]
    cases ha : look e a with
    | none => rw [ha] at h; exact (ih h).imp id .inr
    | some u =>
      rw [ha] at h
      simp only [look] at h
      by_cases hat : a = t
      · subst hat
        rw [if_pos (by simp)] at h
        cases h
        exact ⟨ha, .inl rfl⟩
      · rw [if_neg (by simpa using hat)] at h
        exact (ih h).imp id .inr
theorem EnvOk.restr {R : Ren} {tmps : Array Value} (ts : List Nat) {e : Env} (h : EnvOk R e tmps) : EnvOk R (Og.restr ts e) tmps :=
  ⟨fun k v hk => h.at_ k v (look_restr ts e k v hk).1⟩
theorem size_put (a : Act) (dst : Option Nat) (x : Value) : (a.put dst x).tmps.size = a.tmps.size := by cases dst <;> simp [Act.put]
theorem defers_put (a : Act) (dst : Option Nat) (x : Value) : (a.put dst x).defers = a.defers := by cases dst <;> rfl

/-- One operation. -/
theorem den1_ok {D : Den} (hD : ∀ f, SoundFn P E G f (D f)) {C : Cx} (hE : C.E = E) (hG : C.G = G) {R : Ren} {σ : H} {w : World} {e : Env} {a : Act} (hrel : Rel C R σ w) (he : EnvOk R e a.tmps)
    (o : Oper) {v : V} {σ' : H} (h : den1 E D (compOp P G o.op) e σ = some (v, σ')) (K : Act → World → Prop) (Q : Exit → Act → World → Prop)
    (hK : ∀ R' w' x, Ext σ.next R R' → σ.next ≤ σ'.next → Rel C R' σ' w' → (v = .dead ∨ conc R' v = some x) → K (a.put o.dst x) w') : o.wp P a w K Q := by
  subst hE hG
  have hg := hrel.globOk
  have plain : ∀ (h : aop C.E (compOp P C.G o.op) e σ = some (v, σ')), o.wp P a w K Q := by
    intro h
    unfold aop at h
    split at h
    · split at h
      · rename_i v' hp
        cases h
        obtain ⟨x, hx, hrun⟩ := aopP_ok (a := a) (P := P) he hg o hp w
        unfold Oper.wp
        rw [hrun]
        exact hK R w x (Ext.refl _ _) (Nat.le_refl _) hrel (.inr hx)
      · cases h
    · split at h
      · rename_i v' hp
        cases h
        obtain ⟨x, hx, hrun⟩ := aopL_ok (P := P) hrel he o hp
        unfold Oper.wp
        rw [hrun]
        exact hK R w x (Ext.refl _ _) (Nat.le_refl _) hrel (.inr hx)
      · cases h
    · split at h
      · rename_i v' b hp
        cases h
        obtain ⟨x, w', i, hrun, hn, hi, hx, hok⟩ := aopA_ok (a := a) (P := P) he hg o hp (hrel.fresh _ (Nat.le_refl _)) w
        unfold Oper.wp
        rw [hrun]
        exact hK _ w' x (upd_ext _ _ _) (Nat.le_succ _) (hrel.alloc hn b i hi hok) (.inr hx)
      · cases h
    · obtain ⟨R', w', x, h1, h2, h3, h4, h5⟩ := aopK_ok (P := P) hrel he o h
      unfold Oper.wp
      rcases h5 with h5 | ⟨h5, hv⟩
      · rw [h5]; exact hK R' w' x h1 h2 h3 h4
      · rw [h5]; exact hK R' w' undef h1 h2 h3 (.inl hv)
  have hcallrun : ∀ (g : FuncId) (args : Array Value), callOk P g = true → (callFunc g args).run P w = .ok (.enter g args) w := by
    intro g args hok
    unfold callOk at hok
    unfold callFunc
    simp only [Sem.run_bind, run_program, Result.andThen_ok]
    cases hf : P.funcs[g]? with
    | none => rw [hf] at hok; cases hok
    | some fn =>
      rw [hf] at hok
      simp only [Bool.and_eq_true, bne_iff_ne] at hok
      have h1 : (fn.name == "runtime.NumGoroutine") = false := by simpa using hok.1
      have h2 : fn.body.isNone = false := by cases hb : fn.body <;> simp_all
      simp only [h1, h2, Bool.false_eq_true, if_false, Sem.run_pure]
  have enter : ∀ (g : FuncId) (vs : List V) (xs : List Value), concs R vs = some xs → D g vs σ = some (v, σ') → (execOp a.eval o).run P w = (callFunc g xs.toArray).run P w → o.wp P a w K Q := by
    intro g vs xs hvs hd hrun
    obtain ⟨hok, hc⟩ := hD g C rfl rfl R σ w vs xs v σ' hd hrel hvs
    unfold Oper.wp
    rw [hrun, hcallrun g _ hok, Oper.upon_enter]
    refine hc.mono ?_
    rintro en w' ⟨R', x, h1, h2, h3, h4, rfl⟩
    exact hK R' w' x h1 h2 h3 (.inr h4)
  cases hop : compOp P C.G o.op with
  | call f args =>
    rw [hop] at h
    simp only [den1] at h
    obtain ⟨dst, op, ty, pos, after, guard⟩ := o
    have hsh : ∃ c, op = .call c ∧ c.callee = .value (.func f) ∧ args = c.args.toList.map (compO C.G) := by
      simp only at hop
      cases op <;> simp only [compOp] at hop <;> (try (first | (cases hop; done) | ((repeat' split at hop) <;> (cases hop; done))))
      · rename_i fn _ _; cases fn <;> cases hop
      · rename_i r; cases r <;> cases hop
      · rename_i ok; cases ok
        · cases hop
        · simp only at hop; split at hop <;> cases hop
      · rename_i c
        refine ⟨c, rfl, ?_⟩
        obtain ⟨callee, cargs, argTypes⟩ := c
        simp only at hop
        split at hop
        · unfold compB at hop; (repeat' split at hop) <;> cases hop
        · cases hop; exact ⟨rfl, rfl⟩
        · cases hop
        · cases hop
    obtain ⟨c, rfl, hcal, rfl⟩ := hsh
    split at h
    · rename_i hl
      have hev := evs (a := a) he hg c.args.toList hl
      refine enter f _ _ hev h ?_
      obtain ⟨callee, cargs, argTypes⟩ := c
      simp only at hcal
      subst hcal
      simp only [execOp, resolve, Act.eval, Deferred.ofValue, Sem.run_bind, Sem.run_pure, Result.andThen_ok, invoke]
      congr 2
      apply Array.ext'
      simp
    · cases h
  | callv fo args =>
    rw [hop] at h
    simp only [den1] at h
    obtain ⟨dst, op, ty, pos, after, guard⟩ := o
    have hsh : ∃ c t, op = .call c ∧ c.callee = .value (.tmp t) ∧ fo = .tmp t ∧ args = c.args.toList.map (compO C.G) := by
      simp only at hop
      cases op <;> simp only [compOp] at hop <;> (try (first | (cases hop; done) | ((repeat' split at hop) <;> (cases hop; done))))
      · rename_i fn _ _; cases fn <;> cases hop
      · rename_i r; cases r <;> cases hop
      · rename_i ok; cases ok
        · cases hop
        · simp only at hop; split at hop <;> cases hop
      · rename_i c
        obtain ⟨callee, cargs, argTypes⟩ := c
        simp only at hop
        split at hop
        · unfold compB at hop; (repeat' split at hop) <;> cases hop
        · cases hop
        · rename_i t; cases hop; exact ⟨_, t, rfl, rfl, rfl, rfl⟩
        · cases hop
    obtain ⟨c, t, rfl, hcal, rfl, rfl⟩ := hsh
    split at h
    · rename_i g first cap hf
      split at h
      · rename_i hl
        have hev := evs (a := a) he hg c.args.toList hl
        have hfc := ev (a := a) (o := .tmp t) he hg (by simpa [compO] using hf) rfl
        obtain ⟨y, z, hy, hz, hfe⟩ := conc_fn_inv hfc
        refine enter g _ _ (concs_append (concs_append hy hev) hz) h ?_
        obtain ⟨callee, cargs, argTypes⟩ := c
        simp only at hcal
        subst hcal
        simp only [execOp, resolve, hfe, Deferred.ofValue, Sem.run_bind, Sem.run_pure, Result.andThen_ok, invoke]
        congr 2
        apply Array.ext'
        simp
      · cases h
    · cases h
  | _ => rw [hop] at h; rw [hop] at plain; exact plain (by simpa only [den1] using h)
end Go.Og

set_option linter.unusedSimpArgs false
namespace Go.Og
variable {P : Program} {G : Nat → Bool} {E : List (Nat × Blk)} {D : Den} {C : Cx}

/-- The post holds of whatever the evaluator's answer stands for. -/
def After (C : Cx) (nt : Nat) (σ σ' : H) (e' : Env) (R : Ren) (K : Act → World → Prop) : Prop :=
  ∀ R' a' w', Ext σ.next R R' → σ.next ≤ σ'.next → Rel C R' σ' w' → EnvOk R' e' a'.tmps → nt ≤ a'.tmps.size → a'.defers = [] → K a' w'

theorem After.step {nt : Nat} {σ σ1 σ' : H} {e' : Env} {R R1 : Ren} {K : Act → World → Prop} (h : After C nt σ σ' e' R K) (he : Ext σ.next R R1) (hn : σ.next ≤ σ1.next) : After C nt σ1 σ' e' R1 K :=
  fun R' a' w' h1 h2 h3 h4 h5 h6 => h R' a' w' (he.trans h1 hn) (Nat.le_trans hn h2) h3 h4 h5 h6
theorem dstOk_mono {n m : Nat} {d : Option Nat} (h : dstOk n d = true) (hnm : n ≤ m) : dstOk m d = true := by
  cases d with
  | none => rfl
  | some d => simp only [dstOk, Nat.blt_eq] at h ⊢; omega

theorem wanted_ok {R : Ren} {e : Env} {a : Act} (he : EnvOk R e a.tmps) {ops : Array Oper} {o : Oper} {g : Option (Nat × Bool)} (hg : compG ops o.guard = some g) {b : Bool} (h : wantedA e g = some b) :
    Region.wanted o (yielded ops a.tmps) = b := by
  unfold compG at hg
  cases hgd : o.guard with
  | none =>
    rw [hgd] at hg
    simp only [Option.some.injEq] at hg
    subst hg
    simp only [wantedA, Option.some.injEq] at h
    subst h
    simp [Region.wanted, hgd]
  | some jb =>
    obtain ⟨j, want⟩ := jb
    rw [hgd] at hg
    simp only at hg
    split at hg
    · rename_i t ht
      simp only [Option.some.injEq] at hg
      subst hg
      simp only [wantedA] at h
      split at h
      · rename_i c hc
        simp only [Option.some.injEq] at h
        subst h
        obtain ⟨x, hx, hcx⟩ := he.get hc rfl
        cases hcx
        simp [Region.wanted, hgd, yielded, ht, hx]
      · rename_i hc
        simp only [Option.some.injEq] at h
        subst h
        obtain ⟨x, hx, hcx⟩ := he.get hc rfl
        cases hcx
        simp [Region.wanted, hgd, yielded, ht, hx]
      · cases h
    · cases hg

theorem denOps_ok (hD : ∀ f, SoundFn P E G f (D f)) (hE : C.E = E) (hG : C.G = G) (nt : Nat) (ops : Array Oper) (Q : Exit → Act → World → Prop) :
    ∀ (l : List Oper) (e : Env) (σ : H) (e' : Env) (σ' : H) (R : Ren) (a : Act) (w : World), denOps E D (l.map (compOper P G nt ops)) e σ = some (e', σ') →
      Rel C R σ w → EnvOk R e a.tmps → nt ≤ a.tmps.size → a.defers = [] → After C nt σ σ' e' R (Q .normal) → wpList P ops Q l a w
  | [], e, σ, e', σ', R, a, w, h, hrel, he, hsz, hd, hQ => by
    simp only [List.map_nil, denOps, Option.some.injEq, Prod.mk.injEq] at h
    obtain ⟨rfl, rfl⟩ := h
    exact hQ R a w (Ext.refl _ _) (Nat.le_refl _) hrel he hsz hd
  | o :: l, e, σ, e', σ', R, a, w, h, hrel, he, hsz, hd, hQ => by
    simp only [List.map_cons, denOps] at h
    by_cases hgd : ∃ g, compG ops o.guard = some g ∧ dstOk nt o.dst = true
    · obtain ⟨g, hg, hdst⟩ := hgd
      have hco : compOper P G nt ops o = ⟨o.dst, compOp P G o.op, g⟩ := by simp only [compOper, hg, hdst]
      rw [hco] at h
      simp only at h
      have hdst' := dstOk_mono hdst hsz
      cases hw : wantedA e g with
      | none => rw [hw] at h; cases h
      | some b =>
        rw [hw] at h
        have hwant := wanted_ok he hg hw
        cases b with
        | false =>
          simp only at h
          unfold wpList
          rw [if_neg (by rw [hwant]; simp)]
          exact denOps_ok hD hE hG nt ops Q l _ σ e' σ' R _ w h hrel (he.put hdst' (.inr rfl)) (by rw [size_put]; exact hsz) (by rw [defers_put]; exact hd) hQ
        | true =>
          simp only at h
          cases h1 : den1 E D (compOp P G o.op) e σ with
          | none => rw [h1] at h; cases h
          | some q =>
            obtain ⟨v, σ1⟩ := q
            rw [h1] at h
            simp only at h
            unfold wpList
            rw [if_pos hwant]
            left
            refine den1_ok hD hE hG hrel he o h1 _ _ (fun R1 w1 x he1 hn1 hrel1 hv => ?_)
            exact denOps_ok hD hE hG nt ops Q l _ σ1 e' σ' R1 _ w1 h hrel1 ((he.mono (he1.le hrel.fresh)).put hdst' hv) (by rw [size_put]; exact hsz) (by rw [defers_put]; exact hd) (hQ.step he1 hn1)
    · have hco : compOper P G nt ops o = ⟨o.dst, .bad, none⟩ := by
        unfold compOper
        split
        · rename_i g h1 h2; exact (hgd ⟨g, h1, h2⟩).elim
        · rfl
      rw [hco] at h
      simp [wantedA, den1, aop, AOp.cls, aopP] at h

/-- What the evaluator of regions whose order is open has to bear. -/
def SoundW (P : Program) (E : List (Nat × Blk)) (G : Nat → Bool) (W : DrawFn) : Prop :=
  ∀ (C : Cx), C.E = E → C.G = G → ∀ (nt : Nat) (id : Nat) (ops : Array Oper) (e : Env) (σ : H) (e' : Env) (σ' : H), planOk ops (ops.toList.map (compOper P G nt ops)) (planOf ops) = true → W (ops.toList.map (compOper P G nt ops)) (planOf ops) e σ = some (e', σ') →
    ∀ (R : Ren) (a : Act) (w : World) (Q : Exit → Act → World → Prop), Rel C R σ w → EnvOk R e a.tmps → nt ≤ a.tmps.size → a.defers = [] → After C nt σ σ' e' R (Q .normal) → (Code.region id ops true).wp P Q a w

def AX.exit' : AX → Exit
  | .normal => .normal
  | .exit id => .exit id
  | .ret => .ret

theorem den_ok (hD : ∀ f, SoundFn P E G f (D f)) {W : DrawFn} (hW : SoundW P E G W) (hE : C.E = E) (hG : C.G = G) (N nt : Nat) :
    ∀ (ac : AC) (c : Code), ac.strip = compC P G nt c → ∀ (e : Env) (σ : H) (x : AX) (e' : Env) (σ' : H), den E D W N ac e σ = some (x, e', σ') →
      ∀ (R : Ren) (a : Act) (w : World) (Q : Exit → Act → World → Prop), Rel C R σ w → EnvOk R e a.tmps → nt ≤ a.tmps.size → a.defers = [] → After C nt σ σ' e' R (Q x.exit') → c.wp P Q a w := by
  intro ac
  induction ac with
  | bad => intro c _ e σ x e' σ' h; cases h
  | keep ts ac ih =>
    intro c hs e σ x e' σ' h R a w Q hrel he hsz hd hQ
    exact ih c hs _ σ x e' σ' h R a w Q hrel (he.restr ts) hsz hd hQ
  | skip =>
    intro c hs e σ x e' σ' h R a w Q hrel he hsz hd hQ
    cases h
    cases c <;> simp only [AC.strip, compC] at hs <;> (try (cases hs; done))
    · exact wp_skip (hQ R a w (Ext.refl _ _) (Nat.le_refl _) hrel he hsz hd)
    · rename_i i o d; cases d <;> (first | (cases hs; done) | (simp only [compC] at hs; split at hs <;> cases hs))
  | exit id =>
    intro c hs e σ x e' σ' h R a w Q hrel he hsz hd hQ
    cases h
    cases c <;> simp only [AC.strip, compC] at hs <;> (try (cases hs; done))
    · rename_i i o d; cases d <;> (first | (cases hs; done) | (simp only [compC] at hs; split at hs <;> cases hs))
    · cases hs; exact wp_exit (hQ R a w (Ext.refl _ _) (Nat.le_refl _) hrel he hsz hd)
  | ret =>
    intro c hs e σ x e' σ' h R a w Q hrel he hsz hd hQ
    cases h
    cases c <;> simp only [AC.strip, compC] at hs <;> (try (cases hs; done))
    · rename_i i o d; cases d <;> (first | (cases hs; done) | (simp only [compC] at hs; split at hs <;> cases hs))
    · exact wp_ret (hQ R a w (Ext.refl _ _) (Nat.le_refl _) hrel he hsz hd)
  | region ops =>
    intro c hs e σ x e' σ' h R a w Q hrel he hsz hd hQ
    cases c <;> simp only [AC.strip, compC] at hs <;> (try (cases hs; done))
    rename_i i o d
    cases d
    case true => simp only [compC] at hs; split at hs <;> cases hs
    simp only [compC] at hs
    cases hs
    simp only [den] at h
    cases h1 : denOps E D (o.toList.map (compOper P G nt o)) e σ with
    | none => rw [h1] at h; cases h
    | some q =>
      obtain ⟨e1, σ1⟩ := q
      rw [h1] at h
      cases h
      exact wp_region_list (denOps_ok hD hE hG nt o Q o.toList e σ _ _ R a w h1 hrel he hsz hd hQ)
  | draw ops ms =>
    intro c hs e σ x e' σ' h R a w Q hrel he hsz hd hQ
    cases c <;> simp only [AC.strip, compC] at hs <;> (try (cases hs; done))
    rename_i i o d
    cases d <;> simp only [compC] at hs <;> (try (cases hs; done))
    split at hs
    case isFalse => cases hs
    rename_i hplan
    cases hs
    simp only [den] at h
    cases h1 : W (o.toList.map (compOper P G nt o)) (planOf o) e σ with
    | none => rw [h1] at h; cases h
    | some q =>
      obtain ⟨e1, σ1⟩ := q
      rw [h1] at h
      cases h
      exact hW C hE hG nt i o e σ _ _ hplan h1 R a w Q hrel he hsz hd hQ
  | seq p q ihp ihq =>
    intro c hs e σ x e' σ' h R a w Q hrel he hsz hd hQ
    cases c <;> simp only [AC.strip, compC] at hs <;> (try (cases hs; done))
    · rename_i i o d; cases d <;> (first | (cases hs; done) | (simp only [compC] at hs; split at hs <;> cases hs))
    rename_i c1 c2
    simp only [AC.seq.injEq] at hs
    simp only [den] at h
    cases h1 : den E D W N p e σ with
    | none => rw [h1] at h; cases h
    | some r =>
      obtain ⟨x1, e1, σ1⟩ := r
      rw [h1] at h
      refine wp_seq (ihp c1 hs.1 e σ x1 e1 σ1 h1 R a w _ hrel he hsz hd ?_)
      cases x1 with
      | normal =>
        simp only at h
        intro R1 a1 w1 hx1 hn1 hrel1 he1 hs1 hd1
        exact ihq c2 hs.2 e1 σ1 x e' σ' h R1 a1 w1 Q hrel1 he1 hs1 hd1 (hQ.step hx1 hn1)
      | exit id => cases h; exact hQ
      | ret => cases h; exact hQ
  | cond o p q ihp ihq =>
    intro c hs e σ x e' σ' h R a w Q hrel he hsz hd hQ
    cases c <;> simp only [AC.strip, compC] at hs <;> (try (cases hs; done))
    · rename_i i o d; cases d <;> (first | (cases hs; done) | (simp only [compC] at hs; split at hs <;> cases hs))
    rename_i co c1 c2
    simp only [AC.cond.injEq] at hs
    obtain ⟨rfl, h1, h2⟩ := hs
    simp only [den] at h
    split at h
    · rename_i ho
      exact wp_cond_true (ev_bool he (hG ▸ hrel.globOk) ho) (ihp c1 h1 e σ x e' σ' h R a w Q hrel he hsz hd hQ)
    · rename_i ho
      exact wp_cond_false (ev_bool he (hG ▸ hrel.globOk) ho) (ihq c2 h2 e σ x e' σ' h R a w Q hrel he hsz hd hQ)
    · cases h
  | block id p ih =>
    intro c hs e σ x e' σ' h R a w Q hrel he hsz hd hQ
    cases c <;> simp only [AC.strip, compC] at hs <;> (try (cases hs; done))
    · rename_i i o d; cases d <;> (first | (cases hs; done) | (simp only [compC] at hs; split at hs <;> cases hs))
    rename_i i c1
    simp only [AC.block.injEq] at hs
    obtain ⟨rfl, hs⟩ := hs
    simp only [den] at h
    cases h1 : den E D W N p e σ with
    | none => rw [h1] at h; cases h
    | some r =>
      obtain ⟨x1, e1, σ1⟩ := r
      rw [h1] at h
      refine wp_block (ih c1 hs e σ x1 e1 σ1 h1 R a w _ hrel he hsz hd ?_)
      cases x1 with
      | normal => cases h; exact hQ
      | ret => cases h; exact hQ
      | exit j =>
        simp only at h
        split at h
        · rename_i hj
          simp only [Nat.beq_eq] at hj
          cases h
          intro R1 a1 w1 h1 h2 h3 h4 h5 h6
          show Exit.inBlock id Q (.exit j) a1 w1
          simp only [Exit.inBlock]
          rw [if_pos hj]
          exact hQ R1 a1 w1 h1 h2 h3 h4 h5 h6
        · rename_i hj
          simp only [Nat.beq_eq] at hj
          cases h
          intro R1 a1 w1 h1 h2 h3 h4 h5 h6
          show Exit.inBlock id Q (.exit j) a1 w1
          simp only [Exit.inBlock]
          rw [if_neg hj]
          exact hQ R1 a1 w1 h1 h2 h3 h4 h5 h6
  | loop p ih =>
    intro c hs e σ x e' σ' h R a w Q hrel he hsz hd hQ
    cases c <;> simp only [AC.strip, compC] at hs <;> (try (cases hs; done))
    · rename_i i o d; cases d <;> (first | (cases hs; done) | (simp only [compC] at hs; split at hs <;> cases hs))
    rename_i c1
    simp only [AC.loop.injEq] at hs
    simp only [den] at h
    have key : ∀ (n : Nat) (e : Env) (σ : H) (R : Ren) (a : Act) (w : World), iter (den E D W N p) n e σ = some (x, e', σ') → Rel C R σ w → EnvOk R e a.tmps → nt ≤ a.tmps.size → a.defers = [] →
        After C nt σ σ' e' R (Q x.exit') → Code.rounds P c1 Q n a w := by
      intro n
      induction n with
      | zero => intro e σ R a w h; cases h
      | succ n ihn =>
        intro e σ R a w h hrel he hsz hd hQ
        simp only [iter] at h
        cases h1 : den E D W N p e σ with
        | none => rw [h1] at h; cases h
        | some r =>
          obtain ⟨x1, e1, σ1⟩ := r
          rw [h1] at h
          rw [rounds_succ]
          refine ih c1 hs e σ x1 e1 σ1 h1 R a w _ hrel he hsz hd ?_
          cases x1 with
          | normal =>
            simp only at h
            intro R1 a1 w1 hx1 hn1 hrel1 he1 hs1 hd1
            exact ihn e1 σ1 R1 a1 w1 h hrel1 he1 hs1 hd1 (hQ.step hx1 hn1)
          | exit id => cases h; exact hQ
          | ret => cases h; exact hQ
    exact wp_loop_rounds N (key N e σ R a w h hrel he hsz hd hQ)

/-! ### functions -/
theorem resV_ok {R : Ren} {σ : H} {w : World} {e : Env} {tmps : Array Value} (hrel : Rel C R σ w) (he : EnvOk R e tmps) : ∀ (rs : List ResultVar) (as : List AR) (l : List V), compRs P rs = some as → resV C.E e σ as = some l →
    ∃ xs, concs R l = some xs ∧ (rs.mapM (m := Sem) fun
      | .tmp t => pure (tmps.getD t undef)
      | .cell a t => do loadVar t (← asAddr (tmps.getD a undef))).run P w = .ok xs w
  | [], as, l, hc, h => by
    simp only [compRs, Option.some.injEq] at hc; subst hc
    simp only [resV, Option.some.injEq] at h; subst h
    exact ⟨[], rfl, rfl⟩
  | r :: rs, as, l, hc, h => by
    have hget : ∀ (t : Nat) (v : V), getE e t = v → v.live = true → conc R v = some (tmps.getD t undef) := by
      intro t v hv hl
      obtain ⟨x, hx, hc⟩ := he.get hv hl
      rw [hc, Array.getD_eq_getD_getElem?, hx]; rfl
    simp only [compRs] at hc
    cases hr : compR P r with
    | none => rw [hr] at hc; cases hc
    | some ar =>
      cases hrs : compRs P rs with
      | none => rw [hr, hrs] at hc; cases hc
      | some as' =>
        rw [hr, hrs] at hc
        simp only [Option.some.injEq] at hc
        subst hc
        cases r with
        | tmp t =>
          simp only [compR, Option.some.injEq] at hr
          subst hr
          simp only [resV] at h
          split at h
          · rename_i l' hl hrest
            cases h
            obtain ⟨xs, h1, h2⟩ := resV_ok hrel he rs as' l' hrs hrest
            refine ⟨_, concs_cons.2 ⟨_, _, hget t _ rfl hl, h1, rfl⟩, ?_⟩
            rw [List.mapM_cons]
            simp only [Sem.run_bind, Sem.run_pure, Result.andThen_ok, h2]
          · cases h
        | cell t ty =>
          simp only [compR] at hr
          cases hs : shapeOf P ty with
          | none => rw [hs] at hr; cases hr
          | some n =>
            rw [hs] at hr
            simp only [Option.some.injEq] at hr
            subst hr
            simp only [resV] at h
            split at h
            · rename_i b off l' hb hrest
              obtain ⟨j, hj, hev⟩ := conc_ptr_inv (hget t _ hb rfl)
              obtain ⟨xs, h1, h2⟩ := resV_ok hrel he rs as' l' hrs hrest
              obtain ⟨hagg, hsz⟩ := run_isAgg (P := P) hs w
              split at h
              · split at h
                · rename_i cs hrd
                  split at h
                  · rename_i v hk
                    cases h
                    obtain ⟨i, arr, el, fr, hi, hblk, hold⟩ := hrel.read hrd
                    rw [hj] at hi; cases hi
                    obtain ⟨y, hy, _, hay⟩ := hold off v hk
                    refine ⟨_, concs_cons.2 ⟨_, _, hy, h1, rfl⟩, ?_⟩
                    have hcell : w.cell? ⟨j.blk, j.shift + off, none⟩ = some y := by rw [cell_at hblk]; exact hay
                    have hla : (do loadVar ty (← asAddr (tmps.getD t undef)) : Sem Value).run P w = .ok y w := by
                      simp only [Sem.run_bind, hev, asAddr, Sem.run_pure, Result.andThen_ok, loadVar, hagg, Option.isSome_none, Bool.false_eq_true, if_false, run_load, hcell]
                    rw [List.mapM_cons]
                    refine (Sem.run_bind P w _ _).trans ?_
                    refine (congrArg (fun r => Result.andThen r _) hla).trans ?_
                    simp only [Sem.run_bind, h2, Sem.run_pure, Result.andThen_ok]
                  · cases h
                · cases h
              · rename_i n
                split at h
                · rename_i cs hrd
                  cases h
                  obtain ⟨i, ys, hi, hyc, _, hlen, _, hcell⟩ := hrel.readN hrd
                  rw [hj] at hi; cases hi
                  refine ⟨_, concs_cons.2 ⟨_, _, conc_agg_mk hyc, h1, rfl⟩, ?_⟩
                  have hl := run_loadCells_list (P := P) w ⟨j.blk, j.shift + off, none⟩ ys hcell
                  rw [hlen] at hl
                  have hla : (do loadVar ty (← asAddr (tmps.getD t undef)) : Sem Value).run P w = .ok (.agg ys.toArray) w := by
                    simp only [Sem.run_bind, hev, asAddr, Sem.run_pure, Result.andThen_ok, loadVar, hagg, Option.isSome_some, if_true, hsz n rfl, hl]
                  rw [List.mapM_cons]
                  refine (Sem.run_bind P w _ _).trans ?_
                  refine (congrArg (fun r => Result.andThen r _) hla).trans ?_
                  simp only [Sem.run_bind, h2, Sem.run_pure, Result.andThen_ok]
                · cases h
            · cases h

theorem freeAll_ok {R : Ren} {w : World} : ∀ (ts : List Nat) (e : Env) (σ : H), Rel C R σ w → Rel C R (freeAll ts e σ) w ∧ (freeAll ts e σ).next = σ.next
  | [], _, _, h => ⟨h, rfl⟩
  | t :: ts, e, σ, h => by
    simp only [freeAll]
    split
    · obtain ⟨h1, h2⟩ := freeAll_ok ts e _ (h.del _)
      exact ⟨h1, h2⟩
    · exact freeAll_ok ts e σ h

theorem oneV_ok {R : Ren} {l : List V} {xs : List Value} (h : concs R l = some xs) : conc R (oneV l) = some (if h : xs.toArray.size = 1 then xs.toArray[0] else .tuple xs.toArray) := by
  match l, xs, h with
  | [], xs, h => simp only [concs, Option.some.injEq] at h; subst h; rfl
  | [v], xs, h =>
    obtain ⟨x, ys, hx, hy, rfl⟩ := concs_cons.1 h
    simp only [concs, Option.some.injEq] at hy; subst hy
    simp [oneV, hx]
  | u :: v :: l, xs, h =>
    have hl := concs_length h
    rw [dif_neg (by simp at hl ⊢; omega)]
    exact conc_tup_mk h

/-- THE GREAT THEOREM: a function of the model answers what the evaluator answers, if those that it calls do. -/
theorem runFn_ok (hD : ∀ f, SoundFn P E G f (D f)) {W : DrawFn} (hW : SoundW P E G W) (N : Nat) {f : FuncId} {fn : Func} (hf : P.funcs[f]? = some fn) {af af' : AFn} (hc : compF P G fn = some af') (hs : af.strip = af')
    (hok : callOk P f = true) : SoundFn P E G f (runFn E D W N af) := by
  intro C hE hG R σ w args xs v σ' h hrel hxs
  refine ⟨hok, ?_⟩
  unfold compF at hc
  cases hb : fn.body with
  | none => rw [hb] at hc; cases hc
  | some c =>
    cases hr : compRs P fn.results.toList with
    | none => rw [hb, hr] at hc; cases hc
    | some rs =>
      rw [hb, hr] at hc
      simp only [Option.some.injEq] at hc
      rw [← hs] at hc
      obtain ⟨nt, res, frees, body⟩ := af
      simp only [AFn.strip, AFn.mk.injEq] at hc
      obtain ⟨rfl, rfl, _, hbody⟩ := hc
      unfold runFn at h
      simp only at h
      have hlen := concs_length hxs
      refine calls_of_wp hf hb ?_
      have hsz : fn.ntmps ≤ (xs.toArray ++ Array.replicate (fn.ntmps - xs.toArray.size) undef).size := by simp; omega
      have harg : ∀ (l : List V) (ys : List Value) (k : Nat), concs R l = some ys → ∀ (t : Nat) (v : V), look (argE k l) t = some v → ∃ y, k ≤ t ∧ ys[t - k]? = some y ∧ conc R v = some y := by
        intro l
        induction l with
        | nil => intro ys k _ t v h; simp [argE, look] at h
        | cons u l ih =>
          intro ys k hc t v h
          obtain ⟨y, zs, hy, hz, rfl⟩ := concs_cons.1 hc
          simp only [argE, look] at h
          by_cases hk : k = t
          · subst hk
            rw [if_pos (by simp)] at h
            cases h
            exact ⟨y, Nat.le_refl _, by simp, hy⟩
          · rw [if_neg (by simpa using hk)] at h
            obtain ⟨q, h1, h2, h3⟩ := ih zs (k + 1) hz t v h
            exact ⟨q, by omega, by rw [show t - k = (t - (k + 1)) + 1 by omega, List.getElem?_cons_succ]; exact h2, h3⟩
      have he0 : EnvOk R (argE 0 args) (xs.toArray ++ Array.replicate (fn.ntmps - xs.toArray.size) undef) := by
        refine ⟨fun k u hk => ?_⟩
        obtain ⟨y, _, h2, h3⟩ := harg args xs 0 hxs k u hk
        refine .inr ⟨y, ?_, h3⟩
        rw [Nat.sub_zero] at h2
        have hlt : k < xs.length := by
          rcases Nat.lt_or_ge k xs.length with h | h
          · exact h
          · rw [List.getElem?_eq_none h] at h2; cases h2
        rw [Array.getElem?_append_left (by simpa using hlt)]
        simpa using h2
      have fin : ∀ {x : AX} {e : Env} {σ1 : H}, den E D W N body (argE 0 args) σ = some (x, e, σ1) → (x = .normal ∨ x = .ret) →
          (match resV E e σ1 rs with | some l => some (oneV l, freeAll frees e σ1) | none => none) = some (v, σ') →
          c.wp P (bodyPost P fn fun en w' => ∃ R' x, Ext σ.next R R' ∧ σ.next ≤ σ'.next ∧ Rel C R' σ' w' ∧ conc R' v = some x ∧ en = .returned x)
            { tmps := xs.toArray ++ Array.replicate (fn.ntmps - xs.toArray.size) undef, defers := [] } w := by
        intro x e σ1 hden hx hres
        cases hrv : resV E e σ1 rs with
        | none => rw [hrv] at hres; cases hres
        | some l =>
          rw [hrv] at hres
          simp only [Option.some.injEq, Prod.mk.injEq] at hres
          obtain ⟨rfl, rfl⟩ := hres
          refine den_ok hD hW hE hG N fn.ntmps body c hbody.symm _ σ x e σ1 hden R _ w _ hrel he0 hsz rfl ?_
          intro R1 a1 w1 hx1 hn1 hrel1 he1 _ hd1
          obtain ⟨ys, hyc, hyrun⟩ := resV_ok (P := P) hrel1 he1 fn.results.toList _ l hr (hE ▸ hrv)
          obtain ⟨hfree, hfn⟩ := freeAll_ok frees e σ1 hrel1
          have hres : (results fn a1.tmps).run P w1 = .ok (if h : ys.toArray.size = 1 then ys.toArray[0] else .tuple ys.toArray) w1 := by
            unfold results
            refine (Sem.run_bind P w1 _ _).trans ?_
            rw [Array.mapM_eq_mapM_toList, Sem.run_map]
            refine (congrArg (fun r => Result.andThen (Result.andThen r _) _) hyrun).trans rfl
          have hR : ∃ R' x, Ext σ.next R R' ∧ σ.next ≤ (freeAll frees e σ1).next ∧ Rel C R' (freeAll frees e σ1) w1 ∧ conc R' (oneV l) = some x ∧
              Ending.returned (if h : ys.toArray.size = 1 then ys.toArray[0] else .tuple ys.toArray) = .returned x :=
            ⟨R1, _, hx1, by rw [hfn]; exact hn1, hfree, oneV_ok hyc, rfl⟩
          rcases hx with rfl | rfl
          · exact ⟨hd1, _, hres, hR⟩
          · exact ⟨hd1, _, hres, hR⟩
      split at h
      · cases h
      · rename_i x e σ1 hne hden
        refine fin hden ?_ h
        cases x with
        | normal => exact .inl rfl
        | ret => exact .inr rfl
        | exit id => exact (hne id rfl).elim
      · cases h
end Go.Og
