/- Soundness of regions whose order is open, first part: heaps, masks, equality of values. -/
import Derived.Test.YtpcnmmbpgeahfaaGreatDoorOgK
import Derived.Orders
set_option linter.unusedSimpArgs false
namespace Go.Og
variable {P : Program} {G : Nat → Bool} {E : List (Nat × Blk)} {D : Den} {C : Cx}

theorem look_append {α : Type} (l m : List (Nat × α)) (id : Nat) : look (l ++ m) id = match look l id with
    | some b => some b
    | none => look m id := by
  induction l with
  | nil => rfl
  | cons p l ih =>
    obtain ⟨k, b⟩ := p
    by_cases h : k = id
    · simp [look, h]
    · simp only [List.cons_append, look, Nat.beq_eq, h, if_false, ih]
theorem hid_iff {n0 n id : Nat} {p : Nat → Bool} : (Nat.ble n0 id && Nat.blt id (n0 + n) && !p (id - n0)) = true ↔ (n0 ≤ id ∧ id < n0 + n ∧ p (id - n0) = false) := by
  simp only [Bool.and_eq_true, Nat.ble_eq, Nat.blt_eq, Bool.not_eq_true', and_assoc]
theorem look_hideB (n0 n : Nat) (p : Nat → Bool) (l : List (Nat × Blk)) (id : Nat) :
    look (hideB n0 n p l) id = if n0 ≤ id ∧ id < n0 + n ∧ p (id - n0) = false then none else look l id := by
  induction l with
  | nil => simp [hideB, look]
  | cons q l ih =>
    obtain ⟨k, b⟩ := q
    unfold hideB
    by_cases hk : n0 ≤ k ∧ k < n0 + n ∧ p (k - n0) = false
    · rw [if_pos (hid_iff.2 hk), ih]
      by_cases h : k = id
      · subst h; rw [if_pos hk, if_pos hk]
      · simp only [look, Nat.beq_eq, h, if_false]
    · rw [if_neg (fun hh => hk (hid_iff.1 hh))]
      by_cases h : k = id
      · subst h; rw [if_neg hk]; simp [look]
      · simp only [look, Nat.beq_eq, h, if_false, ih]
theorem look_keepB (n0 n : Nat) (p : Nat → Bool) (l : List (Nat × Blk)) (id : Nat) :
    look (keepB n0 n p l) id = if n0 ≤ id ∧ id < n0 + n ∧ p (id - n0) = false then look l id else none := by
  induction l with
  | nil => simp [keepB, look]
  | cons q l ih =>
    obtain ⟨k, b⟩ := q
    unfold keepB
    by_cases hk : n0 ≤ k ∧ k < n0 + n ∧ p (k - n0) = false
    · rw [if_pos (hid_iff.2 hk)]
      by_cases h : k = id
      · subst h; rw [if_pos hk]; simp [look]
      · simp only [look, Nat.beq_eq, h, if_false, ih]
    · rw [if_neg (fun hh => hk (hid_iff.1 hh)), ih]
      by_cases h : k = id
      · subst h; rw [if_neg hk, if_neg hk]
      · simp only [look, Nat.beq_eq, h, if_false]
theorem hideB_congr {n0 n : Nat} {p q : Nat → Bool} (h : ∀ k, k < n → p k = q k) : ∀ l, hideB n0 n p l = hideB n0 n q l
  | [] => rfl
  | (id, b) :: l => by
    unfold hideB
    rw [hideB_congr h l]
    by_cases hk : n0 ≤ id ∧ id < n0 + n
    · rw [h (id - n0) (by omega)]
    · have : (Nat.ble n0 id && Nat.blt id (n0 + n)) = false := by
        cases hb : (Nat.ble n0 id && Nat.blt id (n0 + n)) with
        | false => rfl
        | true => simp only [Bool.and_eq_true, Nat.ble_eq, Nat.blt_eq] at hb; exact (hk hb).elim
      rw [this]; simp
theorem keepB_congr {n0 n : Nat} {p q : Nat → Bool} (h : ∀ k, k < n → p k = q k) : ∀ l, keepB n0 n p l = keepB n0 n q l
  | [] => rfl
  | (id, b) :: l => by
    unfold keepB
    rw [keepB_congr h l]
    by_cases hk : n0 ≤ id ∧ id < n0 + n
    · rw [h (id - n0) (by omega)]
    · have : (Nat.ble n0 id && Nat.blt id (n0 + n)) = false := by
        cases hb : (Nat.ble n0 id && Nat.blt id (n0 + n)) with
        | false => rfl
        | true => simp only [Bool.and_eq_true, Nat.ble_eq, Nat.blt_eq] at hb; exact (hk hb).elim
      rw [this]; simp

mutual
theorem beq_ok : ∀ (a b : V), V.beq a b = true → a = b
  | .dead, b, h => by cases b <;> simp [V.beq] at h
  | .bool a, b, h => by cases b <;> simp [V.beq] at h; subst h; rfl
  | .int k a, b, h => by cases b <;> simp [V.beq] at h; obtain ⟨rfl, rfl⟩ := h; rfl
  | .str a, b, h => by cases b <;> simp [V.beq] at h; subst h; rfl
  | .nilp, b, h => by cases b <;> simp [V.beq] at h; rfl
  | .ptr _ _, b, h => by cases b <;> simp [V.beq] at h; obtain ⟨rfl, rfl⟩ := h; rfl
  | .nils, b, h => by cases b <;> simp [V.beq] at h; rfl
  | .sl _ _ _ _, b, h => by cases b <;> simp [V.beq] at h; obtain ⟨⟨⟨rfl, rfl⟩, rfl⟩, rfl⟩ := h; rfl
  | .sle _ _ _ _, b, h => by cases b <;> simp [V.beq] at h; obtain ⟨⟨⟨rfl, rfl⟩, rfl⟩, rfl⟩ := h; rfl
  | .nilm, b, h => by cases b <;> simp [V.beq] at h; rfl
  | .mp _, b, h => by cases b <;> simp [V.beq] at h; subst h; rfl
  | .fn f x y, b, h => by
    cases b with
    | fn g u v =>
      simp only [V.beq, Bool.and_eq_true, Nat.beq_eq] at h
      obtain ⟨⟨rfl, h1⟩, h2⟩ := h
      rw [beqs_ok x u h1, beqs_ok y v h2]
    | _ => simp [V.beq] at h
  | .nilf, b, h => by cases b <;> simp [V.beq] at h; rfl
  | .ifc t x, b, h => by
    cases b with
    | ifc u y =>
      simp only [V.beq, Bool.and_eq_true, Nat.beq_eq] at h
      obtain ⟨rfl, h1⟩ := h
      rw [beq_ok x y h1]
    | _ => simp [V.beq] at h
  | .nili, b, h => by cases b <;> simp [V.beq] at h; rfl
  | .agg l, b, h => by
    cases b with
    | agg m => simp only [V.beq] at h; rw [beqs_ok l m h]
    | _ => simp [V.beq] at h
  | .tup l, b, h => by
    cases b with
    | tup m => simp only [V.beq] at h; rw [beqs_ok l m h]
    | _ => simp [V.beq] at h
theorem beqs_ok : ∀ (l m : List V), beqs l m = true → l = m
  | [], m, h => by cases m <;> simp [beqs] at h; rfl
  | a :: l, m, h => by
    cases m with
    | nil => simp [beqs] at h
    | cons b m =>
      simp only [beqs, Bool.and_eq_true] at h
      rw [beq_ok a b h.1, beqs_ok l m h.2]
end

/-! ### parts of a heap -/
/-- What a call may touch that is given a part of the heap alone. -/
def Cx.sub (C : Cx) (R : Ren) (σs : H) (w : World) : Cx :=
  { C with O := fun blk => w.heap.size ≤ blk ∨ ∃ id b j, look σs.bl id = some b ∧ R id = some j ∧ j.blk = blk, w0 := w }

theorem sub_O {R : Ren} {σ σs : H} {w : World} (h : Rel C R σ w) (hsub : ∀ id b, look σs.bl id = some b → look σ.bl id = some b) {blk : Nat} (hO : (C.sub R σs w).O blk) : C.O blk := by
  rcases hO with hge | ⟨id, b, j, hb, hj, rfl⟩
  · exact h.new _ (Nat.le_trans h.size hge)
  · obtain ⟨j', hj', hO', _⟩ := h.own id b (hsub id b hb)
    rw [hj] at hj'; cases hj'; exact hO'

theorem Rel.shrink {R : Ren} {σ σs : H} {w : World} (h : Rel C R σ w) (hn : σs.next = σ.next) (hsub : ∀ id b, look σs.bl id = some b → look σ.bl id = some b) : Rel (C.sub R σs w) R σs w where
  fresh id hid := h.fresh id (hn ▸ hid)
  own id b hb := by
    obtain ⟨j, hj, _, hok⟩ := h.own id b (hsub id b hb)
    exact ⟨j, hj, .inr ⟨id, b, j, hb, hj, rfl⟩, hok⟩
  inj id id' b b' i i' hb hb' hi hi' hbl := h.inj id id' b b' i i' (hsub _ _ hb) (hsub _ _ hb') hi hi' hbl
  ext id b hb := by
    obtain ⟨j, hj, hno, hok⟩ := h.ext id b hb
    exact ⟨j, hj, fun hO => hno (sub_O h hsub hO), hok⟩
  glob := h.glob
  fr _ _ := rfl
  size := Nat.le_refl _
  new _ hblk := .inl hblk
  os := rfl
  tape := rfl
  output := rfl

theorem Rel.regrow {R R' : Ren} {σ σs σ' σ2 : H} {w w' : World} (h : Rel C R σ w) (hsub : ∀ id b, look σs.bl id = some b → look σ.bl id = some b)
    (hs : Rel (C.sub R σs w) R' σ' w') (hx : Ext σ.next R R') (h2 : σ2.next = σ'.next)
    (hl : ∀ id b, look σ2.bl id = some b → look σ'.bl id = some b ∨ (look σ.bl id = some b ∧ look σs.bl id = none)) : Rel C R' σ2 w' := by
  have hle : Le R R' := hx.le h.fresh
  have hOO : ∀ blk, (C.sub R σs w).O blk → C.O blk := fun blk hO => sub_O h hsub hO
  have hno : ∀ id b j, look σ.bl id = some b → look σs.bl id = none → R id = some j → ¬ (C.sub R σs w).O j.blk := by
    intro id b j hb hnone hj hO
    rcases hO with hge | ⟨id2, b2, j2, hb2, hj2, hbl⟩
    · obtain ⟨j', hj', _, hok⟩ := h.own id b hb
      rw [hj] at hj'; cases hj'
      have := hok.lt
      omega
    · have := h.inj id2 id b2 b j2 j (hsub _ _ hb2) hb hj2 hj hbl
      subst this
      rw [hnone] at hb2; cases hb2
  have hR : ∀ id b, look σ.bl id = some b → R' id = R id := fun id b hb => hx id (h.next_of_own hb)
  refine ⟨fun id hid => hs.fresh id (h2 ▸ hid), ?_, ?_, ?_, ?_, ?_, ?_, h.new, hs.os.trans h.os, hs.tape.trans h.tape, hs.output.trans h.output⟩
  · intro id b hb
    rcases hl id b hb with h1 | ⟨h1, h1n⟩
    · obtain ⟨j, hj, hO, hok⟩ := hs.own id b h1
      exact ⟨j, hj, hOO _ hO, hok⟩
    · obtain ⟨j, hj, hO, hok⟩ := h.own id b h1
      exact ⟨j, by rw [hR id b h1]; exact hj, hO, hok.mono hle (hs.fr _ (hno id b j h1 h1n hj))⟩
  · intro id id' b b' i i' hb hb' hi hi' hbl
    rcases hl id b hb with h1 | ⟨h1, h1n⟩
    · rcases hl id' b' hb' with h1' | ⟨h1', h1n'⟩
      · exact hs.inj id id' b b' i i' h1 h1' hi hi' hbl
      · exfalso
        obtain ⟨j, hj, hO, _⟩ := hs.own id b h1
        rw [hi] at hj; cases hj
        rw [hR id' b' h1'] at hi'
        exact hno id' b' i' h1' h1n' hi' (hbl ▸ hO)
    · rcases hl id' b' hb' with h1' | ⟨h1', h1n'⟩
      · exfalso
        obtain ⟨j, hj, hO, _⟩ := hs.own id' b' h1'
        rw [hi'] at hj; cases hj
        rw [hR id b h1] at hi
        exact hno id b i h1 h1n hi (hbl ▸ hO)
      · rw [hR id b h1] at hi; rw [hR id' b' h1'] at hi'
        exact h.inj id id' b b' i i' h1 h1' hi hi' hbl
  · intro id b hb
    obtain ⟨j, hj, hn, hok⟩ := h.ext id b hb
    exact ⟨j, hle _ _ hj, hn, hok.mono hle (hs.fr _ fun hO => hn (hOO _ hO))⟩
  · intro g hg
    obtain ⟨j, hj, hb⟩ := h.glob g hg
    exact ⟨j, hle _ _ hj, hb⟩
  · intro blk hn
    rw [← h.fr blk hn]
    exact hs.fr blk fun hO => hn (hOO _ hO)
  · exact Nat.le_trans h.size hs.size

/-- A new block, with a number that was laid by for it. -/
theorem Rel.allocAt {R : Ren} {σ σ2 : H} {w w' : World} (h : Rel C R σ w) {id : Nat} (hid : R id = none) (hlt : id < σ.next) (hn : NewBlk w w') (b : Blk) (i : BI) (hi : i.blk = w.heap.size)
    (hb : OwnOk (upd R id i) i b w') (h2 : σ2.next = σ.next) (hl : ∀ k, look σ2.bl k = if k = id then some b else look σ.bl k) : Rel C (upd R id i) σ2 w' := by
  have hle : Le R (upd R id i) := fun k j hk => by
    by_cases he : k = id
    · subst he; rw [hid] at hk; cases hk
    · rw [upd_other he]; exact hk
  have hold := hn.old
  have hO : C.O w.heap.size := h.new _ h.size
  refine ⟨?_, ?_, ?_, ?_, ?_, ?_, ?_, h.new, hn.os.trans h.os, hn.tape.trans h.tape, hn.output.trans h.output⟩
  · intro k hk
    rw [upd_other (by omega)]; exact h.fresh k (by omega)
  · intro k c hc
    rw [hl] at hc
    by_cases he : k = id
    · subst he
      rw [if_pos rfl] at hc; cases hc
      exact ⟨i, upd_same _ _ _, hi ▸ hO, hb⟩
    · rw [if_neg he] at hc
      obtain ⟨j, hj, hOj, hok⟩ := h.own k c hc
      exact ⟨j, by rw [upd_other he]; exact hj, hOj, hok.mono hle (hold _ hok.lt)⟩
  · intro k k' c c' j j' hc hc' hj hj' hbl
    rw [hl] at hc hc'
    by_cases he : k = id
    · by_cases he' : k' = id
      · rw [he, he']
      · exfalso
        subst he
        rw [upd_same] at hj; cases hj
        rw [if_neg he'] at hc'
        rw [upd_other he'] at hj'
        obtain ⟨q, hq, _, hok⟩ := h.own k' c' hc'
        rw [hq] at hj'; cases hj'
        have := hok.lt
        omega
    · by_cases he' : k' = id
      · exfalso
        subst he'
        rw [upd_same] at hj'; cases hj'
        rw [if_neg he] at hc
        rw [upd_other he] at hj
        obtain ⟨q, hq, _, hok⟩ := h.own k c hc
        rw [hq] at hj; cases hj
        have := hok.lt
        omega
      · rw [if_neg he] at hc; rw [if_neg he'] at hc'
        rw [upd_other he] at hj; rw [upd_other he'] at hj'
        exact h.inj k k' c c' j j' hc hc' hj hj' hbl
  · intro k c hc
    obtain ⟨j, hj, hno, hok⟩ := h.ext k c hc
    refine ⟨j, hle _ _ hj, hno, hok.mono hle (hold _ ?_)⟩
    rcases Nat.lt_or_ge j.blk w.heap.size with hl | hl
    · exact hl
    · exact absurd (h.new _ (Nat.le_trans h.size hl)) hno
  · intro g hg
    obtain ⟨j, hj, hb⟩ := h.glob g hg
    exact ⟨j, hle _ _ hj, hb⟩
  · intro blk hno
    rw [← h.fr blk hno]
    refine hold _ ?_
    rcases Nat.lt_or_ge blk w.heap.size with hl | hl
    · exact hl
    · exact absurd (h.new _ (Nat.le_trans h.size hl)) hno
  · rw [hn.size]; have := h.size; omega

/-- The same heap, looked at. -/
theorem Rel.congr {R : Ren} {σ σ2 : H} {w : World} (h : Rel C R σ w) (hn : ∀ id, σ2.next ≤ id → R id = none) (hl : ∀ k b, look σ2.bl k = some b → look σ.bl k = some b) : Rel C R σ2 w :=
  ⟨hn, fun k c hk => h.own k c (hl k c hk), fun k k' c c' i i' hk hk' => h.inj k k' c c' i i' (hl k c hk) (hl k' c' hk'), h.ext, h.glob, h.fr, h.size, h.new, h.os, h.tape, h.output⟩

/-- What a part of the heap answers the heap answers. -/
theorem rd_mono {R : Ren} {σ σs : H} {w : World} (h : Rel C R σ w) (hsub : ∀ id b, look σs.bl id = some b → look σ.bl id = some b) {id : Nat} {l : List V} (hr : rd C.E σs id = some l) : rd C.E σ id = some l := by
  unfold rd at hr ⊢
  cases hs : look σs.bl id with
  | some b => rw [hs] at hr; rw [hsub id b hs]; exact hr
  | none =>
    rw [hs] at hr
    cases he : look C.E id with
    | none => rw [he] at hr; cases hr
    | some b =>
      rw [he] at hr
      cases ho : look σ.bl id with
      | none => exact hr
      | some c =>
        exfalso
        obtain ⟨j, hj, hO, _⟩ := h.own id c ho
        obtain ⟨j', hj', hno, _⟩ := h.ext id b he
        rw [hj] at hj'; cases hj'
        exact hno hO
theorem rdN_mono {R : Ren} {σ σs : H} {w : World} (h : Rel C R σ w) (hsub : ∀ id b, look σs.bl id = some b → look σ.bl id = some b) {id off n : Nat} {l : List V} (hr : rdN C.E σs id off n = some l) : rdN C.E σ id off n = some l := by
  unfold rdN at hr ⊢
  cases hs : rd C.E σs id with
  | none => rw [hs] at hr; cases hr
  | some m => rw [hs] at hr; rw [rd_mono h hsub hs]; exact hr
theorem src_mono {R : Ren} {σ σs : H} {w : World} (h : Rel C R σ w) (hsub : ∀ id b, look σs.bl id = some b → look σ.bl id = some b) {esz : Nat} {x : V} {q : Nat × List V} (hr : srcCells C.E σs esz x = some q) : srcCells C.E σ esz x = some q := by
  unfold srcCells at hr ⊢
  split at hr
  · exact hr
  · exact hr
  · simp only [Option.map_eq_some_iff] at hr ⊢
    obtain ⟨m, hm, rfl⟩ := hr
    exact ⟨m, rdN_mono h hsub hm, rfl⟩
  · exact hr
  · cases hr
theorem aopL_mono {R : Ren} {σ σs : H} {w : World} (h : Rel C R σ w) (hsub : ∀ id b, look σs.bl id = some b → look σ.bl id = some b) {op : AOp} {e : Env} {v : V} (hr : aopL C.E op e σs = some v) : aopL C.E op e σ = some v := by
  unfold aopL at hr ⊢
  split at hr
  · split at hr
    · split at hr
      · rename_i hq; rw [rd_mono h hsub hq]; exact hr
      · cases hr
    · cases hr
  · split at hr
    · split at hr
      · rename_i hq; rw [rdN_mono h hsub hq]; exact hr
      · cases hr
    · cases hr
  · split at hr
    · cases hr
    · rename_i hns
      rw [if_neg hns]
      split at hr
      · rename_i hq; rw [src_mono h hsub hq]; exact hr
      · cases hr
  · unfold lookupV at hr ⊢
    split at hr
    · split at hr
      · rename_i hq; rw [hsub _ _ hq]; exact hr
      · cases hr
    · cases hr
  · unfold faddr0V at hr ⊢
    split at hr
    · split at hr
      · rename_i hq; rw [hsub _ _ hq]; exact hr
      · cases hr
    · cases hr
  · cases hr
end Go.Og

set_option linter.unusedSimpArgs false
namespace Go.Og
variable {P : Program} {G : Nat → Bool} {E : List (Nat × Blk)} {D : Den} {C : Cx}

theorem allN_ok : ∀ {n : Nat} {p : Nat → Bool}, allN n p = true → ∀ k, k < n → p k = true
  | n + 1, p, h, k, hk => by
    simp only [allN, Bool.and_eq_true] at h
    by_cases he : k = n
    · subst he; exact h.1
    · exact allN_ok h.2 k (by omega)

structure PlanF (ops : Array Oper) (l : List AOper) (pl : List DP) : Prop where
  len : pl.length = ops.size
  llen : l.length = ops.size
  edges : ∀ (i : Nat) (o : Oper), ops[i]? = some o → ∀ e ∈ o.after, Region.binds .any e = true → e.on < i
  anc : ∀ (i : Nat) (o : Oper) (p : DP), ops[i]? = some o → pl[i]? = some p → ∀ k, k < ops.size → p.anc.testBit k = true → ∃ e ∈ o.after, Region.binds .any e = true ∧ (e.on = k ∨ (ancOf pl e.on).testBit k = true)
  dsts : ∀ (i k : Nat) (o o' : Oper) (p p' : DP), i ≠ k → ops[i]? = some o → ops[k]? = some o' → pl[i]? = some p → pl[k]? = some p' → ∀ (t : Nat), o.dst = some t →
    o'.dst ≠ some t ∧ (memN p'.looks t = true → p'.anc.testBit i = true ∨ p.anc.testBit k = true)
  kk : ∀ (i k : Nat) (ao ao' : AOper) (p' : DP), i < k → l[i]? = some ao → l[k]? = some ao' → pl[k]? = some p' → ao.op.cls = .k → ao'.op.cls = .k → p'.anc.testBit i = true

theorem planOk_ok {ops : Array Oper} {l : List AOper} {pl : List DP} (hl : l.length = ops.size) (h : planOk ops l pl = true) : PlanF ops l pl := by
  unfold planOk at h
  simp only [Bool.and_eq_true, Nat.beq_eq] at h
  obtain ⟨hlen, h⟩ := h
  have hlt : ∀ {i : Nat} {o : Oper}, ops[i]? = some o → i < ops.size := fun {i o} ho => by
    rcases Nat.lt_or_ge i ops.size with h | h
    · exact h
    · rw [Array.getElem?_eq_none h] at ho; cases ho
  have hmain := allN_ok h
  have hl_lt : ∀ {i : Nat} {o : AOper}, l[i]? = some o → i < ops.size := fun {i o} ho => by
    rcases Nat.lt_or_ge i l.length with h | h
    · omega
    · rw [List.getElem?_eq_none h] at ho; cases ho
  have some3 : ∀ i, i < ops.size → ∃ o ao p, ops[i]? = some o ∧ l[i]? = some ao ∧ pl[i]? = some p := fun i hi =>
    ⟨_, _, _, Array.getElem?_eq_getElem hi, List.getElem?_eq_getElem (by omega), List.getElem?_eq_getElem (by omega)⟩
  refine ⟨hlen, hl, ?_, ?_, ?_, ?_⟩
  · intro i o ho e he hb
    obtain ⟨o1, ao, p, h1, h2, h3⟩ := some3 i (hlt ho)
    have hm := hmain i (hlt ho)
    rw [h1, h2, h3] at hm
    rw [ho] at h1; cases h1
    simp only [Bool.and_eq_true] at hm
    have := List.all_eq_true.1 hm.1 e (by simpa using he)
    simp only [hb, Bool.not_true, Bool.false_or, Nat.blt_eq] at this
    exact this
  · intro i o p ho hp k hk hbit
    obtain ⟨o1, ao, p1, h1, h2, h3⟩ := some3 i (hlt ho)
    have hm := hmain i (hlt ho)
    rw [h1, h2, h3] at hm
    rw [ho] at h1; cases h1
    rw [hp] at h3; cases h3
    simp only [Bool.and_eq_true] at hm
    have hk2 := allN_ok hm.2 k hk
    simp only [Bool.and_eq_true] at hk2
    have := hk2.1
    rw [hbit] at this
    simp only [Bool.not_true, Bool.false_or, List.any_eq_true, Bool.and_eq_true, Bool.or_eq_true, Nat.beq_eq] at this
    obtain ⟨e, he, hb, hr⟩ := this
    exact ⟨e, by simpa using he, hb, hr⟩
  · intro i k o o' p p' hne ho ho' hp hp' t ht
    obtain ⟨o1, ao, p1, h1, h2, h3⟩ := some3 i (hlt ho)
    obtain ⟨o2, ao2, p2, h1', h2', h3'⟩ := some3 k (hlt ho')
    have hm := hmain i (hlt ho)
    rw [h1, h2, h3] at hm
    rw [ho] at h1; cases h1
    rw [hp] at h3; cases h3
    rw [ho'] at h1'; cases h1'
    rw [hp'] at h3'; cases h3'
    simp only [Bool.and_eq_true] at hm
    have hk2 := allN_ok hm.2 k (hlt ho')
    have hik : Nat.beq i k = false := Bool.eq_false_iff.2 (by rw [ne_eq, Nat.beq_eq]; exact hne)
    simp only [Bool.and_eq_true, hik, Bool.false_or] at hk2
    have := hk2.2
    rw [ho', h2', hp'] at this
    simp only [ht, Bool.and_eq_true] at this
    obtain ⟨⟨h4, h5⟩, _⟩ := this
    constructor
    · intro heq
      rw [heq] at h4
      simp at h4
    · intro hmem
      rw [hmem] at h5
      simpa using h5
  · intro i k ao ao' p' hik ha ha' hp' hc hc'
    obtain ⟨o1, ao1, p1, h1, h2, h3⟩ := some3 i (hl_lt ha)
    obtain ⟨o2, ao2, p2, h1', h2', h3'⟩ := some3 k (hl_lt ha')
    have hm := hmain i (hl_lt ha)
    rw [h1, h2, h3] at hm
    rw [ha] at h2; cases h2
    rw [ha'] at h2'; cases h2'
    rw [hp'] at h3'; cases h3'
    simp only [Bool.and_eq_true] at hm
    have hk2 := allN_ok hm.2 k (hl_lt ha')
    have hne : Nat.beq i k = false := Bool.eq_false_iff.2 (by rw [ne_eq, Nat.beq_eq]; omega)
    simp only [Bool.and_eq_true, hne, Bool.false_or] at hk2
    have := hk2.2
    rw [h1', ha', hp'] at this
    simp only [Bool.and_eq_true, hc, hc'] at this
    have := this.2
    have hb : Nat.blt i k = true := by simpa using hik
    rw [hb] at this
    simpa using this

theorem PlanF.ancLt {ops : Array Oper} {l : List AOper} {pl : List DP} (h : PlanF ops l pl) : ∀ (i : Nat) (p : DP), pl[i]? = some p → ∀ (k : Nat), k < ops.size → p.anc.testBit k = true → k < i := by
  intro i
  induction i using Nat.strongRecOn with
  | _ i ih =>
    intro p hp k hk hb
    have hi : i < ops.size := by
      rcases Nat.lt_or_ge i pl.length with h1 | h1
      · have := h.len; omega
      · rw [List.getElem?_eq_none h1] at hp; cases hp
    obtain ⟨e, he, hbe, hr⟩ := h.anc i ops[i] p (Array.getElem?_eq_getElem hi) hp k hk hb
    have hlt := h.edges i ops[i] (Array.getElem?_eq_getElem hi) e he hbe
    rcases hr with rfl | hr
    · exact hlt
    · have hel : e.on < pl.length := by have := h.len; omega
      have hp' : pl[e.on]? = some pl[e.on] := List.getElem?_eq_getElem hel
      have : (pl[e.on]).anc.testBit k = true := by
        simpa [ancOf, List.getD_eq_getElem?_getD, hp'] using hr
      have := ih e.on hlt _ hp' k hk this
      omega

/-- What the walk in the order of the text leaves, as far as operation i. -/
structure Tr (E : List (Nat × Blk)) (D : Den) (l : List AOper) (pl : List DP) (n0 n : Nat) (e0 : Env) (h0 : List (Nat × Blk)) (i : Nat) (s : DS) where
  vals : Nat → V
  envs : Nat → Env
  Hh : Nat → List (Nat × Blk)
  nx : Nat → Nat
  ks : Nat → Nat
  M : Nat
  ssl : s.ss.length = M + 1
  ssg : ∀ (m : Nat), m ≤ M → s.ss[M - m]? = some (Hh m)
  ksl : s.ks.length = M
  ksg : ∀ (r : Nat), r < M → s.ks[M - 1 - r]? = some (ks r)
  ke : s.e = envs i
  ez : envs 0 = e0
  es : ∀ (k : Nat), k < i → ∀ (o : AOper), l[k]? = some o → envs (k + 1) = putE (envs k) o.dst (vals k)
  nx0 : nx 0 = n0 + n
  nxs : s.nx = nx M
  hz : ∀ id, ¬ (n0 ≤ id ∧ id < n0 + n) → look (Hh 0) id = look h0 id
  ops : ∀ (k : Nat), k < i → ∀ (o : AOper) (p : DP), l[k]? = some o → pl[k]? = some p →
    (wantedA (restr p.looks (envs k)) o.guard = some false ∧ vals k = undefV ∧ s.am.testBit k = false ∧ ∀ r, r < M → ks r ≠ k) ∨
    (wantedA (restr p.looks (envs k)) o.guard = some true ∧
      ((o.op.cls = .p ∧ aopP o.op (restr p.looks (envs k)) = some (vals k) ∧ s.am.testBit k = false ∧ ∀ r, r < M → ks r ≠ k) ∨
       (o.op.cls = .l ∧ (k, o.op, restr p.looks (envs k), vals k) ∈ s.ls ∧ s.am.testBit k = false ∧ ∀ r, r < M → ks r ≠ k) ∨
       (o.op.cls = .a ∧ s.am.testBit k = true ∧ (∀ r, r < M → ks r ≠ k) ∧ ∃ b, aopA o.op (restr p.looks (envs k)) (n0 + k) = some (vals k, b) ∧
          ∀ m, m ≤ M → (∀ r, r < m → (ancOf pl (ks r)).testBit k = false) → look (Hh m) (n0 + k) = some b) ∨
       (o.op.cls = .k ∧ s.am.testBit k = false ∧ ∃ r, r < M ∧ ks r = k)))
  amlt : ∀ k, s.am.testBit k = true → k < i
  kst : ∀ r, r < M → ks r < i ∧ ∃ (o : AOper) (p : DP) (σ' : H), l[ks r]? = some o ∧ pl[ks r]? = some p ∧ o.op.cls = .k ∧ wantedA (restr p.looks (envs (ks r))) o.guard = some true ∧
    den1 E D o.op (restr p.looks (envs (ks r))) ⟨nx r, hideB n0 n (visK p.anc s.am) (Hh r)⟩ = some (vals (ks r), σ') ∧
    Hh (r + 1) = keepB n0 n (visK p.anc s.am) (Hh r) ++ σ'.bl ∧ nx (r + 1) = σ'.next
  kinc : ∀ r r', r < r' → r' < M → ks r < ks r'

theorem testBit_or_pow {a i k : Nat} : (a ||| 2 ^ i).testBit k = (a.testBit k || decide (i = k)) := by
  rw [Nat.testBit_or, Nat.testBit_two_pow]

theorem Tr.start (E : List (Nat × Blk)) (D : Den) (l : List AOper) (pl : List DP) (n0 n : Nat) (e0 : Env) (h0 : List (Nat × Blk)) : Nonempty (Tr E D l pl n0 n e0 h0 0 ⟨e0, n0 + n, [h0], [], 0, []⟩) :=
  ⟨{ vals := fun _ => .dead, envs := fun _ => e0, Hh := fun _ => h0, nx := fun _ => n0 + n, ks := fun _ => 0, M := 0,
     ssl := rfl, ssg := fun m hm => by have : m = 0 := by omega
                                       subst this; rfl
     ksl := rfl, ksg := fun r hr => by omega
     ke := rfl, ez := rfl, es := fun k hk => by omega
     nx0 := rfl, nxs := rfl, hz := fun _ _ => rfl
     ops := fun k hk => by omega
     amlt := fun k hk => by simp at hk
     kst := fun r hr => by omega
     kinc := fun r r' h h' => by omega }⟩

def ins {α : Type} (f : Nat → α) (i : Nat) (v : α) (k : Nat) : α := if k = i then v else f k
theorem ins_same {α : Type} (f : Nat → α) (i : Nat) (v : α) : ins f i v i = v := if_pos rfl
theorem ins_ne {α : Type} (f : Nat → α) {i k : Nat} (v : α) (h : k ≠ i) : ins f i v k = f k := if_neg h

/-- A step that writes nothing and makes nothing. -/
theorem Tr.quiet {l : List AOper} {pl : List DP} {n0 n : Nat} {e0 : Env} {h0 : List (Nat × Blk)} {i : Nat} {s : DS} (T : Tr E D l pl n0 n e0 h0 i s) {o : AOper} {p : DP} (ho : l[i]? = some o) (hp : pl[i]? = some p) (v : V) (ls : List (Nat × AOp × Env × V))
    (hls : ∀ x, x ∈ s.ls → x ∈ ls)
    (hcase : (wantedA (restr p.looks s.e) o.guard = some false ∧ v = undefV) ∨ (wantedA (restr p.looks s.e) o.guard = some true ∧
      ((o.op.cls = .p ∧ aopP o.op (restr p.looks s.e) = some v) ∨ (o.op.cls = .l ∧ (i, o.op, restr p.looks s.e, v) ∈ ls)))) :
    Nonempty (Tr E D l pl n0 n e0 h0 (i + 1) { s with e := putE s.e o.dst v, ls := ls }) := by
  obtain ⟨vals, envs, Hh, nx, ks, M, ssl, ssg, ksl, ksg, ke, ez, es, nx0, nxs, hz, ops, amlt, kst, kinc⟩ := T
  have hne : ∀ r, r < M → ks r ≠ i := fun r hr => by have := (kst r hr).1; omega
  have ham : s.am.testBit i = false := by
    cases hb : s.am.testBit i with
    | false => rfl
    | true => have := amlt i hb; omega
  have hval : ∀ k, k < i → ins vals i v k = vals k := fun k hk => ins_ne _ _ (by omega)
  have henv : ∀ k, k < i + 1 → ins envs (i + 1) (putE s.e o.dst v) k = envs k := fun k hk => ins_ne _ _ (by omega)
  refine ⟨{ vals := ins vals i v, envs := ins envs (i + 1) (putE s.e o.dst v), Hh := Hh, nx := nx, ks := ks, M := M,
            ssl := ssl, ssg := ssg, ksl := ksl, ksg := ksg, ke := (ins_same _ _ _).symm, ez := by rw [henv 0 (by omega)]; exact ez, es := ?_, nx0 := nx0, nxs := nxs, hz := hz, ops := ?_, amlt := fun k hk => Nat.lt_succ_of_lt (amlt k hk), kst := ?_, kinc := kinc }⟩
  · intro k hk o' ho'
    by_cases he : k = i
    · subst he
      rw [ho] at ho'; cases ho'
      rw [ins_same, ins_same, henv k (by omega), ke]
    · rw [henv k (by omega), hval k (by omega), henv (k + 1) (by omega)]
      exact es k (by omega) o' ho'
  · intro k hk o' p' ho' hp'
    by_cases he : k = i
    · subst he
      rw [ho] at ho'; cases ho'
      rw [hp] at hp'; cases hp'
      rw [henv k (by omega), ← ke, ins_same]
      rcases hcase with ⟨h1, h2⟩ | ⟨h1, h2⟩
      · exact .inl ⟨h1, h2, ham, hne⟩
      · refine .inr ⟨h1, ?_⟩
        rcases h2 with ⟨h2, h3⟩ | ⟨h2, h3⟩
        · exact .inl ⟨h2, h3, ham, hne⟩
        · exact .inr (.inl ⟨h2, h3, ham, hne⟩)
    · rw [henv k (by omega), hval k (by omega)]
      rcases ops k (by omega) o' p' ho' hp' with h1 | ⟨h1, h2 | ⟨h2, h3, h4⟩ | h2 | h2⟩
      · exact .inl h1
      · exact .inr ⟨h1, .inl h2⟩
      · exact .inr ⟨h1, .inr (.inl ⟨h2, hls _ h3, h4⟩)⟩
      · exact .inr ⟨h1, .inr (.inr (.inl h2))⟩
      · exact .inr ⟨h1, .inr (.inr (.inr h2))⟩
  · intro r hr
    obtain ⟨h1, o', p', σ', h2, h3, h4, h5, h6, h7, h8⟩ := kst r hr
    refine ⟨by omega, o', p', σ', h2, h3, h4, ?_, ?_, h7, h8⟩
    · rw [henv _ (by omega)]; exact h5
    · rw [henv _ (by omega), hval _ h1]; exact h6
end Go.Og

set_option linter.unusedSimpArgs false
namespace Go.Og
variable {P : Program} {G : Nat → Bool} {E : List (Nat × Blk)} {D : Den} {C : Cx}

theorem ancOf_eq {pl : List DP} {i : Nat} {p : DP} (h : pl[i]? = some p) : ancOf pl i = p.anc := by simp [ancOf, List.getD_eq_getElem?_getD, h]

/-- An operation that makes a block. -/
theorem Tr.make {ops' : Array Oper} {l : List AOper} {pl : List DP} (F : PlanF ops' l pl) {n0 n : Nat} (hn : n = ops'.size) {e0 : Env} {h0 : List (Nat × Blk)} {i : Nat} {s : DS} (T : Tr E D l pl n0 n e0 h0 i s) {o : AOper} {p : DP}
    (ho : l[i]? = some o) (hp : pl[i]? = some p) (v : V) (b : Blk) (hw : wantedA (restr p.looks s.e) o.guard = some true) (hc : o.op.cls = .a) (ha : aopA o.op (restr p.looks s.e) (n0 + i) = some (v, b)) :
    Nonempty (Tr E D l pl n0 n e0 h0 (i + 1) { s with e := putE s.e o.dst v, ss := s.ss.map ((n0 + i, b) :: ·), am := s.am ||| 2 ^ i }) := by
  obtain ⟨vals, envs, Hh, nx, ks, M, ssl, ssg, ksl, ksg, ke, ez, es, nx0, nxs, hz, ops, amlt, kst, kinc⟩ := T
  have hin : i < n := by
    rcases Nat.lt_or_ge i l.length with h | h
    · have := F.llen; omega
    · rw [List.getElem?_eq_none h] at ho; cases ho
  have hne : ∀ r, r < M → ks r ≠ i := fun r hr => by have := (kst r hr).1; omega
  have hval : ∀ k, k < i → ins vals i v k = vals k := fun k hk => ins_ne _ _ (by omega)
  have henv : ∀ k, k < i + 1 → ins envs (i + 1) (putE s.e o.dst v) k = envs k := fun k hk => ins_ne _ _ (by omega)
  have hlk : ∀ m k, k ≠ i → look ((n0 + i, b) :: Hh m) (n0 + k) = look (Hh m) (n0 + k) := fun m k hk => by
    simp only [look, Nat.beq_eq]
    rw [if_neg (by omega)]
  have ham : ∀ k, k ≠ i → (s.am ||| 2 ^ i).testBit k = s.am.testBit k := fun k hk => by
    rw [testBit_or_pow]; simp [Ne.symm hk]
  refine ⟨{ vals := ins vals i v, envs := ins envs (i + 1) (putE s.e o.dst v), Hh := fun m => (n0 + i, b) :: Hh m, nx := nx, ks := ks, M := M,
            ssl := by simp [ssl], ssg := fun m hm => by rw [List.getElem?_map, ssg m hm]; rfl
            ksl := ksl, ksg := ksg, ke := (ins_same _ _ _).symm, ez := by rw [henv 0 (by omega)]; exact ez, es := ?_, nx0 := nx0, nxs := nxs, hz := ?_, ops := ?_, amlt := ?_, kst := ?_, kinc := kinc }⟩
  · intro k hk o' ho'
    by_cases he : k = i
    · subst he
      rw [ho] at ho'; cases ho'
      rw [ins_same, ins_same, henv k (by omega), ke]
    · rw [henv k (by omega), hval k (by omega), henv (k + 1) (by omega)]
      exact es k (by omega) o' ho'
  · intro id hid
    simp only [look, Nat.beq_eq]
    rw [if_neg (by omega)]
    exact hz id hid
  · intro k hk o' p' ho' hp'
    by_cases he : k = i
    · subst he
      rw [ho] at ho'; cases ho'
      rw [hp] at hp'; cases hp'
      rw [henv k (by omega), ← ke, ins_same]
      refine .inr ⟨hw, .inr (.inr (.inl ⟨hc, by rw [testBit_or_pow]; simp, hne, b, ha, fun m _ _ => by simp [look]⟩))⟩
    · rw [henv k (by omega), hval k (by omega)]
      simp only [ham k he]
      rcases ops k (by omega) o' p' ho' hp' with h1 | ⟨h1, h2 | h2 | ⟨h2, h3, h4, b', h5, h6⟩ | h2⟩
      · exact .inl h1
      · exact .inr ⟨h1, .inl h2⟩
      · exact .inr ⟨h1, .inr (.inl h2)⟩
      · exact .inr ⟨h1, .inr (.inr (.inl ⟨h2, h3, h4, b', h5, fun m hm hr => by rw [hlk m k he]; exact h6 m hm hr⟩))⟩
      · exact .inr ⟨h1, .inr (.inr (.inr h2))⟩
  · intro k hk
    rw [testBit_or_pow] at hk
    simp only [Bool.or_eq_true, decide_eq_true_eq] at hk
    rcases hk with hk | hk
    · have := amlt k hk; omega
    · omega
  · intro r hr
    obtain ⟨h1, o', p', σ', h2, h3, h4, h5, h6, h7, h8⟩ := kst r hr
    have hanc : p'.anc.testBit i = false := by
      cases hb : p'.anc.testBit i with
      | false => rfl
      | true => have := F.ancLt _ p' h3 i (by omega) hb; omega
    have hcong : ∀ k, k < n → visK p'.anc (s.am ||| 2 ^ i) k = visK p'.anc s.am k := fun k _ => by
      unfold visK
      by_cases he : k = i
      · subst he; rw [hanc]; simp
      · rw [ham k he]
    have hvi : visK p'.anc (s.am ||| 2 ^ i) (n0 + i - n0) = false := by
      rw [show n0 + i - n0 = i by omega]; unfold visK; rw [hanc]; rfl
    have hhide : hideB n0 n (visK p'.anc (s.am ||| 2 ^ i)) ((n0 + i, b) :: Hh r) = hideB n0 n (visK p'.anc s.am) (Hh r) := by
      rw [hideB, if_pos (hid_iff.2 ⟨by omega, by omega, hvi⟩)]
      exact hideB_congr hcong _
    have hkeep : keepB n0 n (visK p'.anc (s.am ||| 2 ^ i)) ((n0 + i, b) :: Hh r) = (n0 + i, b) :: keepB n0 n (visK p'.anc s.am) (Hh r) := by
      rw [keepB, if_pos (hid_iff.2 ⟨by omega, by omega, hvi⟩)]
      rw [keepB_congr hcong]
    refine ⟨by omega, o', p', σ', h2, h3, h4, ?_, ?_, ?_, h8⟩
    · rw [henv _ (by omega)]; exact h5
    · rw [henv _ (by omega), hval _ h1, hhide]; exact h6
    · rw [hkeep, h7]; rfl

/-- An operation that writes. -/
theorem Tr.writes {ops' : Array Oper} {l : List AOper} {pl : List DP} (F : PlanF ops' l pl) {n0 n : Nat} (hn : n = ops'.size) {e0 : Env} {h0 : List (Nat × Blk)} {i : Nat} {s : DS} (T : Tr E D l pl n0 n e0 h0 i s) {o : AOper} {p : DP}
    (ho : l[i]? = some o) (hp : pl[i]? = some p) (v : V) (σ' : H) {h : List (Nat × Blk)} {ss' : List (List (Nat × Blk))} (hss : s.ss = h :: ss') (hw : wantedA (restr p.looks s.e) o.guard = some true) (hc : o.op.cls = .k)
    (hd : den1 E D o.op (restr p.looks s.e) ⟨s.nx, hideB n0 n (visK p.anc s.am) h⟩ = some (v, σ')) :
    Nonempty (Tr E D l pl n0 n e0 h0 (i + 1) { s with e := putE s.e o.dst v, nx := σ'.next, ss := (keepB n0 n (visK p.anc s.am) h ++ σ'.bl) :: s.ss, ks := i :: s.ks }) := by
  obtain ⟨vals, envs, Hh, nx, ks, M, ssl, ssg, ksl, ksg, ke, ez, es, nx0, nxs, hz, ops, amlt, kst, kinc⟩ := T
  have hin : i < n := by
    rcases Nat.lt_or_ge i l.length with h | h
    · have := F.llen; omega
    · rw [List.getElem?_eq_none h] at ho; cases ho
  have hne : ∀ r, r < M → ks r ≠ i := fun r hr => by have := (kst r hr).1; omega
  have hhead : h = Hh M := by
    have := ssg M (Nat.le_refl _)
    rw [Nat.sub_self, hss] at this
    simpa using this
  have ham : s.am.testBit i = false := by
    cases hb : s.am.testBit i with
    | false => rfl
    | true => have := amlt i hb; omega
  have hval : ∀ k, k < i → ins vals i v k = vals k := fun k hk => ins_ne _ _ (by omega)
  have henv : ∀ k, k < i + 1 → ins envs (i + 1) (putE s.e o.dst v) k = envs k := fun k hk => ins_ne _ _ (by omega)
  have hH : ∀ m, m ≤ M → ins Hh (M + 1) (keepB n0 n (visK p.anc s.am) h ++ σ'.bl) m = Hh m := fun m hm => ins_ne _ _ (by omega)
  have hnx : ∀ m, m ≤ M → ins nx (M + 1) σ'.next m = nx m := fun m hm => ins_ne _ _ (by omega)
  have hks : ∀ r, r < M → ins ks M i r = ks r := fun r hr => ins_ne _ _ (by omega)
  refine ⟨{ vals := ins vals i v, envs := ins envs (i + 1) (putE s.e o.dst v), Hh := ins Hh (M + 1) (keepB n0 n (visK p.anc s.am) h ++ σ'.bl), nx := ins nx (M + 1) σ'.next, ks := ins ks M i, M := M + 1,
            ssl := by simp [ssl], ssg := ?_, ksl := by simp [ksl], ksg := ?_, ke := (ins_same _ _ _).symm, ez := by rw [henv 0 (by omega)]; exact ez, es := ?_, nx0 := by rw [hnx 0 (by omega)]; exact nx0,
            nxs := (ins_same _ _ _).symm, hz := fun id hid => by rw [hH 0 (by omega)]; exact hz id hid, ops := ?_, amlt := fun k hk => Nat.lt_succ_of_lt (amlt k hk), kst := ?_, kinc := ?_ }⟩
  · intro m hm
    by_cases he : m = M + 1
    · subst he; rw [Nat.sub_self, ins_same]; rfl
    · rw [hH m (by omega), show M + 1 - m = (M - m) + 1 by omega, List.getElem?_cons_succ]
      exact ssg m (by omega)
  · intro r hr
    by_cases he : r = M
    · subst he; rw [ins_same, show r + 1 - 1 - r = 0 by omega]; rfl
    · rw [hks r (by omega), show M + 1 - 1 - r = (M - 1 - r) + 1 by omega, List.getElem?_cons_succ]
      exact ksg r (by omega)
  · intro k hk o' ho'
    by_cases he : k = i
    · subst he
      rw [ho] at ho'; cases ho'
      rw [ins_same, ins_same, henv k (by omega), ke]
    · rw [henv k (by omega), hval k (by omega), henv (k + 1) (by omega)]
      exact es k (by omega) o' ho'
  · intro k hk o' p' ho' hp'
    by_cases he : k = i
    · subst he
      rw [ho] at ho'; cases ho'
      rw [hp] at hp'; cases hp'
      rw [henv k (by omega), ← ke, ins_same]
      exact .inr ⟨hw, .inr (.inr (.inr ⟨hc, ham, M, by omega, ins_same _ _ _⟩))⟩
    · rw [henv k (by omega), hval k (by omega)]
      have hnk : (∀ r, r < M → ks r ≠ k) → ∀ r, r < M + 1 → ins ks M i r ≠ k := fun hh r hr => by
        by_cases hrm : r = M
        · subst hrm; rw [ins_same]; omega
        · rw [hks r (by omega)]; exact hh r (by omega)
      rcases ops k (by omega) o' p' ho' hp' with ⟨h1, h2, h3, h4⟩ | ⟨h1, ⟨h2, h3, h4, h5⟩ | ⟨h2, h3, h4, h5⟩ | ⟨h2, h3, h4, b', h5, h6⟩ | ⟨h2, h3, r, h4, h5⟩⟩
      · exact .inl ⟨h1, h2, h3, hnk h4⟩
      · exact .inr ⟨h1, .inl ⟨h2, h3, h4, hnk h5⟩⟩
      · exact .inr ⟨h1, .inr (.inl ⟨h2, h3, h4, hnk h5⟩)⟩
      · refine .inr ⟨h1, .inr (.inr (.inl ⟨h2, h3, hnk h4, b', h5, fun m hm hr => ?_⟩))⟩
        by_cases hmm : m = M + 1
        · subst hmm
          rw [ins_same, look_append, look_keepB, hhead]
          have hanc : p.anc.testBit k = false := by
            have := hr M (by omega)
            rw [ins_same, ancOf_eq hp] at this
            exact this
          have hv : visK p.anc s.am (n0 + k - n0) = false := by
            rw [show n0 + k - n0 = k by omega]; unfold visK; rw [hanc]; rfl
          rw [if_pos ⟨by omega, by omega, hv⟩]
          have := h6 M (Nat.le_refl _) (fun r hrM => by have := hr r (by omega); rw [hks r hrM] at this; exact this)
          rw [this]
        · rw [hH m (by omega)]
          exact h6 m (by omega) (fun r hrm => by have := hr r hrm; rw [hks r (by omega)] at this; exact this)
      · exact .inr ⟨h1, .inr (.inr (.inr ⟨h2, h3, r, by omega, by rw [hks r h4]; exact h5⟩))⟩
  · intro r hr
    by_cases he : r = M
    · subst he
      rw [ins_same]
      refine ⟨by omega, o, p, σ', ho, hp, hc, ?_, ?_, ?_, ?_⟩
      · rw [henv i (by omega), ← ke]; exact hw
      · rw [henv i (by omega), ← ke, ins_same, hnx r (by omega), hH r (by omega), ← hhead, ← nxs]; exact hd
      · rw [ins_same, hH r (by omega), hhead]
      · rw [ins_same]
    · obtain ⟨h1, o', p', σ2, h2, h3, h4, h5, h6, h7, h8⟩ := kst r (by omega)
      rw [hks r (by omega)]
      refine ⟨by omega, o', p', σ2, h2, h3, h4, ?_, ?_, ?_, ?_⟩
      · rw [henv _ (by omega)]; exact h5
      · rw [henv _ (by omega), hval _ h1, hnx r (by omega), hH r (by omega)]; exact h6
      · rw [hH (r + 1) (by omega), hH r (by omega)]; exact h7
      · rw [hnx (r + 1) (by omega)]; exact h8
  · intro r r' hrr hr'
    by_cases he : r' = M
    · subst he
      rw [ins_same, hks r (by omega)]
      exact (kst r (by omega)).1
    · rw [hks r' (by omega), hks r (by omega)]
      exact kinc r r' hrr (by omega)

theorem dsteps_tr {ops' : Array Oper} {l : List AOper} {pl : List DP} (F : PlanF ops' l pl) {n0 n : Nat} (hn : n = ops'.size) {e0 : Env} {h0 : List (Nat × Blk)} :
    ∀ (rest : List AOper) (prest : List DP) (i : Nat) (s s' : DS), l.drop i = rest → pl.drop i = prest → Nonempty (Tr E D l pl n0 n e0 h0 i s) → dsteps E D n0 n i rest prest s = some s' →
      Nonempty (Tr E D l pl n0 n e0 h0 (i + rest.length) s')
  | [], prest, i, s, s', hl, hp, hT, h => by
    cases prest <;> (simp only [dsteps, Option.some.injEq] at h; subst h; exact hT)
  | o :: rest, [], i, s, s', hl, hp, hT, h => by simp only [dsteps] at h; cases h
  | o :: rest, p :: prest, i, s, s', hl, hp, hT, h => by
    have ho : l[i]? = some o := by
      have := congrArg (·[0]?) hl
      simpa [List.getElem?_drop] using this
    have hpp : pl[i]? = some p := by
      have := congrArg (·[0]?) hp
      simpa [List.getElem?_drop] using this
    have hl' : l.drop (i + 1) = rest := by rw [← List.drop_drop, hl]; rfl
    have hp' : pl.drop (i + 1) = prest := by rw [← List.drop_drop, hp]; rfl
    simp only [dsteps] at h
    cases hs : dstep E D n0 n i o p s with
    | none => rw [hs] at h; cases h
    | some s1 =>
      rw [hs] at h
      obtain ⟨T⟩ := hT
      have hT1 : Nonempty (Tr E D l pl n0 n e0 h0 (i + 1) s1) := by
        unfold dstep at hs
        split at hs
        · cases hs
        · rename_i hw; cases hs
          exact T.quiet ho hpp undefV s.ls (fun _ h => h) (.inl ⟨hw, rfl⟩)
        · rename_i hw
          split at hs
          · rename_i hc
            split at hs
            · cases hs
            · rename_i v hv; cases hs
              exact T.quiet ho hpp v s.ls (fun _ h => h) (.inr ⟨hw, .inl ⟨hc, hv⟩⟩)
          · rename_i hc
            split at hs
            · cases hs
            · split at hs
              · cases hs
              · rename_i v hv; cases hs
                exact T.quiet ho hpp v _ (fun _ h => List.mem_cons_of_mem _ h) (.inr ⟨hw, .inr ⟨hc, List.mem_cons_self⟩⟩)
          · rename_i hc
            split at hs
            · cases hs
            · rename_i v b hv; cases hs
              exact T.make F hn ho hpp v b hw hc hv
          · rename_i hc
            split at hs
            · cases hs
            · rename_i hh hss
              split at hs
              · cases hs
              · rename_i v σ' hv; cases hs
                exact T.writes F hn ho hpp v σ' hss hw hc hv
      have := dsteps_tr F hn rest prest (i + 1) s1 s' hl' hp' hT1 h
      rwa [show i + (o :: rest).length = i + 1 + rest.length by simp; omega]
end Go.Og

set_option linter.unusedSimpArgs false
namespace Go.Og
variable {P : Program} {G : Nat → Bool} {E : List (Nat × Blk)} {D : Den} {C : Cx}

theorem checkL_ok {n0 n : Nat} {pl : List DP} {am j : Nat} {op : AOp} {em : Env} {v : V} : ∀ (ss : List (List (Nat × Blk))) (ks more : List Nat), checkL E n0 n pl am j op em v ss ks more = true → ss.length = ks.length + 1 →
    ∀ (q : Nat) (h : List (Nat × Blk)), ss[q]? = some h → legal pl j (ks.drop q) ((ks.take q).reverse ++ more) = true → aopL E op em ⟨0, hideB n0 n (visK (ancOf pl j) am) h⟩ = some v
  | [], ks, more, _, hl, q, h, hq, _ => by simp at hq
  | h' :: ss, ks, more, hc, hl, 0, h, hq, hleg => by
    simp only [List.getElem?_cons_zero, Option.some.injEq] at hq
    subst hq
    simp only [List.drop_zero, List.take_zero, List.reverse_nil, List.nil_append] at hleg
    simp only [checkL, hleg, Bool.not_true, Bool.false_or, Bool.and_eq_true] at hc
    have := hc.1
    unfold ancOf
    split at this
    · rename_i u hu
      rw [hu, beq_ok _ _ this]
    · cases this
  | h' :: ss, [], more, hc, hl, q + 1, h, hq, hleg => by
    simp at hl
    subst hl
    simp at hq
  | h' :: ss, k :: ks, more, hc, hl, q + 1, h, hq, hleg => by
    simp only [checkL, Bool.and_eq_true] at hc
    refine checkL_ok ss ks (k :: more) hc.2 (by simpa using hl) q h (by simpa using hq) ?_
    simp only [List.drop_succ_cons, List.take_succ_cons, List.reverse_cons, List.append_assoc, List.singleton_append] at hleg
    exact hleg

theorem getD_true_iff {listed : Array Bool} {k n : Nat} (hs : listed.size = n) (hk : k < n) : listed.getD k true = listed.getD k false := by
  have h : k < listed.size := by omega
  simp [Array.getD, h]

theorem set_getD {listed : Array Bool} {i k : Nat} (hi : i < listed.size) : (listed.setIfInBounds i true).getD k false = (decide (k = i) || listed.getD k false) := by
  simp only [Array.getD_eq_getD_getElem?, Array.getElem?_setIfInBounds]
  by_cases h : i = k
  · subst h; simp [hi]
  · rw [if_neg h]; simp [Ne.symm h]

theorem cnt_lt {p q : Nat → Bool} (h : ∀ k, p k = true → q k = true) {i : Nat} (hq : q i = true) (hp : p i = false) : ∀ (l : List Nat), i ∈ l → l.countP p < l.countP q
  | [], hm => by cases hm
  | x :: l, hm => by
    have hmono : ∀ l : List Nat, l.countP p ≤ l.countP q := fun l => List.countP_mono_left fun x _ hx => h x hx
    rcases List.mem_cons.1 hm with rfl | hm
    · rw [List.countP_cons_of_pos hq, List.countP_cons_of_neg (by simp [hp])]
      have := hmono l; omega
    · have ih := cnt_lt h hq hp l hm
      by_cases hx : p x = true
      · rw [List.countP_cons_of_pos hx, List.countP_cons_of_pos (h x hx)]; omega
      · rw [List.countP_cons_of_neg hx]
        by_cases hqx : q x = true
        · rw [List.countP_cons_of_pos hqx]; omega
        · rw [List.countP_cons_of_neg hqx]; exact ih

set_option maxHeartbeats 1000000 in
theorem drawW_ok (hD : ∀ f, SoundFn P E G f (D f)) (hmix : P.follows .mixedOrders = true) : SoundW P E G (drawW E D) := by
  intro C hE hG nt id ops e0 σ0 e' σ' hplan hW R0 a0 w00 Q hrel0 he0 hnt0 hd0 hQ
  subst hE hG
  generalize hl : ops.toList.map (compOper P C.G nt ops) = l at hplan hW
  generalize hpl : planOf ops = pl at hplan hW
  have hlen : l.length = ops.size := by rw [← hl]; simp
  have F := planOk_ok hlen hplan
  unfold drawW at hW
  have hn : l.length = ops.size := hlen
  generalize hnn : l.length = n at hW
  have hnops : n = ops.size := by omega
  cases hds : dsteps C.E D σ0.next n 0 l pl ⟨e0, σ0.next + n, [σ0.bl], [], 0, []⟩ with
  | none => rw [hds] at hW; cases hW
  | some s =>
    rw [hds] at hW
    simp only at hW
    split at hW
    case isFalse => cases hW
    rename_i hchk
    obtain ⟨T⟩ := dsteps_tr F hnops l pl 0 _ s rfl rfl (Tr.start C.E D l pl σ0.next n e0 σ0.bl) hds
    rw [Nat.zero_add, hnn] at T
    obtain ⟨vals, envs, Hh, nx, ks, M, ssl, ssg, ksl, ksg, ke, ez, es, nx0, nxs, hz, hops, amlt, kst, kinc⟩ := T
    -- the answer
    have hans : e' = envs n ∧ σ' = ⟨nx M, hideB σ0.next n (fun k => s.am.testBit k) (Hh M)⟩ := by
      have hh := ssg M (Nat.le_refl _)
      rw [Nat.sub_self] at hh
      split at hW
      · rename_i h ss' hss
        rw [hss] at hh
        simp only [List.getElem?_cons_zero, Option.some.injEq] at hh
        cases hW
        exact ⟨ke, by rw [nxs, hh]⟩
      · cases hW
    obtain ⟨rfl, rfl⟩ := hans
    clear hW hds
    -- what each operation is
    have some3 : ∀ i, i < n → ∃ o p, ops[i]? = some o ∧ l[i]? = some (compOper P C.G nt ops o) ∧ pl[i]? = some p := fun i hi => by
      have h1 : i < ops.size := by omega
      refine ⟨ops[i], pl[i]'(by have := F.len; omega), Array.getElem?_eq_getElem h1, ?_, List.getElem?_eq_getElem _⟩
      rw [← hl, List.getElem?_map, Array.getElem?_toList, Array.getElem?_eq_getElem h1]; rfl
    have hdlt : ∀ (i : Nat) (o : Oper) (t : Nat), i < n → ops[i]? = some o → o.dst = some t → t < nt := by
      intro i o t hin ho ht
      obtain ⟨o2, p, ho2, hlo, hp⟩ := some3 i hin
      rw [ho] at ho2; cases ho2
      cases hdo : dstOk nt o.dst with
      | true => rw [ht] at hdo; simpa [dstOk] using hdo
      | false =>
        exfalso
        have hco : compOper P C.G nt ops o = ⟨o.dst, .bad, none⟩ := by
          unfold compOper
          rw [hdo]
          split
          · rename_i h; cases h
          · rfl
        have := hops i hin _ p hlo hp
        rw [hco] at this
        simp [wantedA, AOp.cls, aopP] at this
    -- the loads, behind whatever they may stand
    have hload : ∀ j op em v, (j, op, em, v) ∈ s.ls → ∀ m, m ≤ M → (∀ r, m ≤ r → r < M → (ancOf pl j).testBit (ks r) = false) → (∀ r, r < m → (ancOf pl (ks r)).testBit j = false) →
        aopL C.E op em ⟨0, hideB σ0.next n (visK (ancOf pl j) s.am) (Hh m)⟩ = some v := by
      intro j op em v hmem m hm h1 h2
      have hc := List.all_eq_true.1 hchk _ hmem
      refine checkL_ok s.ss s.ks [] hc (by omega) (M - m) (Hh m) (ssg m hm) ?_
      unfold legal
      simp only [List.append_nil, Bool.and_eq_true, List.all_eq_true, Bool.not_eq_true', List.mem_reverse]
      constructor
      · intro x hx
        obtain ⟨q, hq⟩ := List.mem_iff_getElem?.1 hx
        rw [List.getElem?_take] at hq
        split at hq
        · rename_i hqm
          have := ksg (M - 1 - q) (by omega)
          rw [show M - 1 - (M - 1 - q) = q by omega, hq] at this
          cases this
          exact h1 _ (by omega) (by omega)
        · cases hq
      · intro x hx
        obtain ⟨q, hq⟩ := List.mem_iff_getElem?.1 hx
        rw [List.getElem?_drop] at hq
        have hql : M - m + q < s.ks.length := by
          rcases Nat.lt_or_ge (M - m + q) s.ks.length with h | h
          · exact h
          · rw [List.getElem?_eq_none h] at hq; cases hq
        have := ksg (M - 1 - (M - m + q)) (by omega)
        rw [show M - 1 - (M - 1 - (M - m + q)) = M - m + q by omega, hq] at this
        cases this
        exact h2 _ (by omega)
    -- the invariant
    let Lf : Array Bool → Nat → Bool := fun listed k => listed.getD k false
    let vis : Array Bool → Nat → Bool := fun listed k => listed.getD k false && s.am.testBit k
    let Inv : Array Bool → Act → World → Prop := fun listed a w =>
      listed.size = n ∧ (∀ i o, listed.getD i false = true → ops[i]? = some o → ∀ ed ∈ o.after, Region.binds .any ed = true → listed.getD ed.on false = true) ∧ a.defers = [] ∧
      ∃ R m, m ≤ M ∧ (∀ r, r < M → (listed.getD (ks r) false = true ↔ r < m)) ∧ Ext σ0.next R0 R ∧ σ0.next + n ≤ nx m ∧ Rel C R ⟨nx m, hideB σ0.next n (vis listed) (Hh m)⟩ w ∧
        (∀ k, k < n → listed.getD k false = false → R (σ0.next + k) = none) ∧ nt ≤ a.tmps.size ∧
        (∀ i o t, listed.getD i false = true → ops[i]? = some o → o.dst = some t → t < a.tmps.size → vals i = .dead ∨ ∃ x, a.tmps[t]? = some x ∧ conc R (vals i) = some x) ∧
        (∀ t v, look e0 t = some v → (∀ i o, listed.getD i false = true → ops[i]? = some o → o.dst ≠ some t) → v = .dead ∨ ∃ x, a.tmps[t]? = some x ∧ conc R v = some x)
    -- whatever comes before an operation that is ready, or listed, is listed
    have hanc : ∀ (listed : Array Bool), (∀ i o, listed.getD i false = true → ops[i]? = some o → ∀ ed ∈ o.after, Region.binds .any ed = true → listed.getD ed.on false = true) →
        ∀ (i : Nat) (o : Oper) (p : DP), ops[i]? = some o → pl[i]? = some p → (∀ ed ∈ o.after, Region.binds .any ed = true → listed.getD ed.on false = true) → ∀ (k : Nat), k < n → p.anc.testBit k = true → listed.getD k false = true := by
      intro listed hcl i
      induction i using Nat.strongRecOn with
      | _ i ih =>
        intro o p ho hp hed k hk hb
        obtain ⟨ed, hem, hbe, hr⟩ := F.anc i o p ho hp k (by omega) hb
        have hlt := F.edges i o ho ed hem hbe
        have hli := hed ed hem hbe
        rcases hr with rfl | hr
        · exact hli
        · have hin : i < n := by
            rcases Nat.lt_or_ge i ops.size with h | h
            · omega
            · rw [Array.getElem?_eq_none h] at ho; cases ho
          obtain ⟨o2, p2, h1, _, h3⟩ := some3 ed.on (by omega)
          exact ih ed.on hlt o2 p2 h1 h3 (fun ed2 hm2 hb2 => hcl ed.on o2 hli h1 ed2 hm2 hb2) k hk (by rw [← ancOf_eq h3]; exact hr)
    have hready_nil : ∀ listed : Array Bool, listed.size = n → Region.ready .any ops listed = [] → ∀ k, k < n → listed.getD k false = true := by
      intro listed hsz hr k
      induction k using Nat.strongRecOn with
      | _ k ih =>
        intro hk
        cases hb : listed.getD k false with
        | true => rfl
        | false =>
          exfalso
          obtain ⟨o, p, h1, _, _⟩ := some3 k hk
          have : k ∈ Region.ready .any ops listed := mem_ready.2 ⟨by rw [getD_true_iff hsz hk]; exact hb, o, h1, fun ed hm hbd => ih ed.on (F.edges k o h1 ed hm hbd) (by have := F.edges k o h1 ed hm hbd; omega)⟩
          rw [hr] at this; cases this
    -- the temporaries that an operation looks at
    have henv : ∀ (listed : Array Bool) (a : Act) (R : Ren),
        (∀ i o, listed.getD i false = true → ops[i]? = some o → ∀ ed ∈ o.after, Region.binds .any ed = true → listed.getD ed.on false = true) →
        nt ≤ a.tmps.size →
        (∀ i o t, listed.getD i false = true → ops[i]? = some o → o.dst = some t → t < a.tmps.size → vals i = .dead ∨ ∃ x, a.tmps[t]? = some x ∧ conc R (vals i) = some x) →
        (∀ t v, look e0 t = some v → (∀ i o, listed.getD i false = true → ops[i]? = some o → o.dst ≠ some t) → v = .dead ∨ ∃ x, a.tmps[t]? = some x ∧ conc R v = some x) →
        ∀ (j : Nat) (o : Oper) (p : DP), j ≤ n → (j = n → ∀ k, k < n → listed.getD k false = true) →
          (j < n → ops[j]? = some o ∧ pl[j]? = some p ∧ listed.getD j false = false ∧ (∀ ed ∈ o.after, Region.binds .any ed = true → listed.getD ed.on false = true)) →
          ∀ (t : Nat) (v : V), look (envs j) t = some v → (j < n → memN p.looks t = true) → v = .dead ∨ ∃ x, a.tmps[t]? = some x ∧ conc R v = some x := by
      intro listed a R hcl hsz hw hu j o p hj hall hrd
      -- the environment of the text's order
      have hshape : ∀ j, j ≤ n → ∀ t v, look (envs j) t = some v →
          (∃ k o', k < j ∧ ops[k]? = some o' ∧ o'.dst = some t ∧ v = vals k) ∨ (look e0 t = some v ∧ ∀ k o', k < j → ops[k]? = some o' → o'.dst ≠ some t) := by
        intro j
        induction j with
        | zero => intro _; rw [ez]; exact fun t v hv => .inr ⟨hv, fun k o' hk => by omega⟩
        | succ j ih =>
          intro hj
          have h2 := ih (by omega)
          obtain ⟨oj, pj, ho1, hl1, _⟩ := some3 j (by omega)
          have hes := es j (by omega) _ hl1
          have hdst : (compOper P C.G nt ops oj).dst = oj.dst := by unfold compOper; split <;> rfl
          rw [hdst] at hes
          rw [hes]
          intro t v hv
          cases hd : oj.dst with
          | none =>
            rw [hd] at hv
            simp only [putE] at hv
            rcases h2 t v hv with ⟨k, o', hk, hk2, hk3, hk4⟩ | ⟨hk, hk2⟩
            · exact .inl ⟨k, o', by omega, hk2, hk3, hk4⟩
            · refine .inr ⟨hk, fun k o' hkj hko => ?_⟩
              by_cases he : k = j
              · subst he; rw [ho1] at hko; cases hko; rw [hd]; simp
              · exact hk2 k o' (by omega) hko
          | some d =>
            rw [hd] at hv
            simp only [putE, look] at hv
            by_cases hdt : d = t
            · subst hdt
              rw [if_pos (by simp)] at hv
              cases hv
              exact .inl ⟨j, oj, by omega, ho1, hd, rfl⟩
            · rw [if_neg (by simpa using hdt)] at hv
              rcases h2 t v hv with ⟨k, o', hk, hk2, hk3, hk4⟩ | ⟨hk, hk2⟩
              · exact .inl ⟨k, o', by omega, hk2, hk3, hk4⟩
              · refine .inr ⟨hk, fun k o' hkj hko => ?_⟩
                by_cases he : k = j
                · subst he; rw [ho1] at hko; cases hko; rw [hd]; simpa using hdt
                · exact hk2 k o' (by omega) hko
      have hsh := hshape j hj
      intro t v hv hlook
      rcases hsh t v hv with ⟨k, ok, hk, hk2, hk3, rfl⟩ | ⟨hk, hk2⟩
      · -- written before, in the text's order: it has been written
        refine hw k ok t ?_ hk2 hk3 (Nat.lt_of_lt_of_le (hdlt k ok t (by omega) hk2 hk3) hsz)
        by_cases hjn : j < n
        · obtain ⟨ho, hp, _, hed⟩ := hrd hjn
          obtain ⟨o3, p3, h1, _, h3⟩ := some3 k (by omega)
          rw [hk2] at h1; cases h1
          have hd := (F.dsts k j ok o p3 p (by omega) hk2 ho h3 hp t hk3).2 (hlook hjn)
          rcases hd with hd | hd
          · exact hanc listed hcl j o p ho hp hed k (by omega) hd
          · have := F.ancLt k p3 h3 j (by omega) hd; omega
        · exact hall (by omega) k (by omega)
      · -- not written before: it has not been written
        refine hu t v hk (fun i oi hli hoi hdst => ?_)
        have hin : i < n := by
          rcases Nat.lt_or_ge i ops.size with h | h
          · omega
          · rw [Array.getElem?_eq_none h] at hoi; cases hoi
        by_cases hij : i < j
        · exact hk2 i oi hij hoi hdst
        · have hjn : j < n := by omega
          obtain ⟨ho, hp, hnl, _⟩ := hrd hjn
          by_cases hie : i = j
          · subst hie; rw [hnl] at hli; cases hli
          · obtain ⟨o3, p3, h1, _, h3⟩ := some3 i hin
            rw [hoi] at h1; cases h1
            have hd := (F.dsts i j oi o p3 p hie hoi ho h3 hp t hdst).2 (hlook hjn)
            rcases hd with hd | hd
            · have := F.ancLt j p hp i (by omega) hd; omega
            · have := hanc listed hcl i oi p3 hoi h3 (fun ed hm hb => hcl i oi hli hoi ed hm hb) j hjn hd
              rw [hnl] at this; cases this
    have hput : ∀ (a : Act) (d : Option Nat) (x : Value) (t : Nat), d ≠ some t → (a.put d x).tmps[t]? = a.tmps[t]? := by
      intro a d x t hne
      cases d with
      | none => rfl
      | some d =>
        simp only [Act.put, Array.getElem?_setIfInBounds]
        rw [if_neg (fun h => hne (by rw [h]))]
    have hputsz : ∀ (a : Act) (d : Option Nat) (x : Value), (a.put d x).tmps.size = a.tmps.size := by
      intro a d x; cases d <;> simp [Act.put]
    -- the end
    have hfin : ∀ listed a w, Inv listed a w → (∀ k, k < n → listed.getD k false = true) → Q .normal a w := by
      intro listed a w hI hall
      obtain ⟨hsz, hcl, hd, R, m, hm, hpre, hx, hnxm, hrel, hres, htsz, hwc, huc⟩ := hI
      have hmM : m = M := by
        rcases Nat.lt_or_ge m M with h | h
        · have := (hpre m h).1 (hall _ (by have := (kst m h).1; omega)); omega
        · omega
      subst hmM
      refine hQ R a w hx (by show σ0.next ≤ nx m; omega) ?_ ?_ htsz hd
      · refine hrel.congr (fun id hid => hrel.fresh id hid) (fun k b hk => ?_)
        rw [look_hideB] at hk ⊢
        by_cases hc : σ0.next ≤ k ∧ k < σ0.next + n ∧ s.am.testBit (k - σ0.next) = false
        · rw [if_pos hc] at hk; cases hk
        · rw [if_neg hc] at hk
          rw [if_neg (fun h => hc ⟨h.1, h.2.1, by have := h.2.2; simp only [vis, hall (k - σ0.next) (by omega), Bool.true_and] at this; exact this⟩)]
          exact hk
      · refine ⟨fun t v hv => ?_⟩
        exact henv listed a R hcl htsz hwc huc n default default (Nat.le_refl _) (fun _ => hall) (fun h => by omega) t v hv (fun h => by omega)
    -- a step
    have hstep : ∀ listed a w, Inv listed a w → ∀ i, i ∈ Region.ready .any ops listed → ∀ K : Act → World → Prop, (∀ a' w', Inv (listed.setIfInBounds i true) a' w' → K a' w') → wpOp P ops Q i K a w := by
      intro listed a w hI i hi K hK
      obtain ⟨hsz, hcl, hd, R, m, hm, hpre, hx, hnxm, hrel, hres, htsz, hwc, huc⟩ := hI
      obtain ⟨hli, o, ho, hed⟩ := mem_ready.1 hi
      have hin : i < n := by
        rcases Nat.lt_or_ge i ops.size with h | h
        · omega
        · rw [Array.getElem?_eq_none h] at ho; cases ho
      have hnl : listed.getD i false = false := by rw [← getD_true_iff hsz hin]; exact hli
      obtain ⟨o2, p, ho2, hlo, hp⟩ := some3 i hin
      rw [ho] at ho2; cases ho2
      have hsz' : i < listed.size := by omega
      have hLs : ∀ k, (listed.setIfInBounds i true).getD k false = (decide (k = i) || listed.getD k false) := fun k => set_getD hsz'
      have hancl : ∀ k, k < n → p.anc.testBit k = true → listed.getD k false = true := hanc listed hcl i o p ho hp hed
      have hgl := hrel.globOk
      have hle0 : ∀ {R'}, Ext (nx m) R R' → Le R R' := fun h => h.le hrel.fresh
      have hem : EnvOk R (restr p.looks (envs i)) a.tmps := by
        refine ⟨fun t v hv => ?_⟩
        obtain ⟨ht, hmem⟩ := look_restr _ _ _ _ hv
        exact henv listed a R hcl htsz hwc huc i o p (by omega) (fun h => by omega) (fun _ => ⟨ho, hp, hnl, hed⟩) t v ht (fun _ => hmem)
      have mk : ∀ (R' : Ren) (m' : Nat) (w' : World) (x : Value), m' ≤ M → (∀ r, r < M → ((listed.setIfInBounds i true).getD (ks r) false = true ↔ r < m')) → Ext σ0.next R0 R' → σ0.next + n ≤ nx m' →
          Rel C R' ⟨nx m', hideB σ0.next n (vis (listed.setIfInBounds i true)) (Hh m')⟩ w' → (∀ k, k < n → (listed.setIfInBounds i true).getD k false = false → R' (σ0.next + k) = none) → Le R R' →
          (vals i = .dead ∨ conc R' (vals i) = some x) → K (a.put o.dst x) w' := by
        intro R' m' w' x h1 h2 h3 h4 h5 h6 h7 h8
        refine hK _ _ ⟨by rw [Array.size_setIfInBounds]; exact hsz, ?_, by rw [defers_put]; exact hd, R', m', h1, h2, h3, h4, h5, h6, by rw [hputsz]; exact htsz, ?_, ?_⟩
        · intro i' o' hi' ho' ed hm' hb'
          rw [hLs] at hi' ⊢
          simp only [Bool.or_eq_true, decide_eq_true_eq] at hi' ⊢
          rcases hi' with rfl | hi'
          · rw [ho] at ho'; cases ho'
            exact .inr (hed ed hm' hb')
          · exact .inr (hcl i' o' hi' ho' ed hm' hb')
        · intro i' o' t hi' ho' hdt htl
          rw [hputsz] at htl
          rw [hLs] at hi'
          simp only [Bool.or_eq_true, decide_eq_true_eq] at hi'
          by_cases he : i' = i
          · subst he
            rw [ho] at ho'; cases ho'
            rcases h8 with h8 | h8
            · exact .inl h8
            · refine .inr ⟨x, ?_, h8⟩
              rw [hdt]
              simp [Act.put, Array.getElem?_setIfInBounds, htl]
          · have hi'' := hi'.resolve_left he
            have hi'n : i' < n := by
              rcases Nat.lt_or_ge i' ops.size with h | h
              · omega
              · rw [Array.getElem?_eq_none h] at ho'; cases ho'
            obtain ⟨o3, p3, h1', _, h3'⟩ := some3 i' hi'n
            rw [ho'] at h1'; cases h1'
            rw [hput a o.dst x t ((F.dsts i' i o' o p3 p he ho' ho h3' hp t hdt).1)]
            rcases hwc i' o' t hi'' ho' hdt htl with h | ⟨y, hy, hc⟩
            · exact .inl h
            · exact .inr ⟨y, hy, conc_mono h7 _ _ hc⟩
        · intro t v hv hno
          have hot : o.dst ≠ some t := hno i o (by rw [hLs]; simp) ho
          rw [hput a o.dst x t hot]
          rcases huc t v hv (fun i' o' hi' ho' => hno i' o' (by rw [hLs, hi']; simp) ho') with h | ⟨y, hy, hc⟩
          · exact .inl h
          · exact .inr ⟨y, hy, conc_mono h7 _ _ hc⟩
      -- nothing written, nothing made
      have hsame : s.am.testBit i = false → Rel C R ⟨nx m, hideB σ0.next n (vis (listed.setIfInBounds i true)) (Hh m)⟩ w := by
        intro ham
        rw [hideB_congr (q := vis listed) (fun k hk => by
          simp only [vis]
          rw [hLs]
          by_cases he : k = i
          · subst he; simp [ham]
          · simp [he])]
        exact hrel
      have hpre1 : (∀ r, r < M → ks r ≠ i) → ∀ r, r < M → ((listed.setIfInBounds i true).getD (ks r) false = true ↔ r < m) := by
        intro hne r hr
        rw [hLs]
        simp only [hne r hr, decide_false, Bool.false_or]
        exact hpre r hr
      have hres1 : ∀ k, k < n → (listed.setIfInBounds i true).getD k false = false → R (σ0.next + k) = none := by
        intro k hk hkl
        rw [hLs] at hkl
        simp only [Bool.or_eq_false_iff] at hkl
        exact hres k hk hkl.2
      have hkbefore : ∀ r, r < m → (ancOf pl (ks r)).testBit i = false := by
        intro r hr
        cases hb : (ancOf pl (ks r)).testBit i with
        | false => rfl
        | true =>
          exfalso
          obtain ⟨hkn, _⟩ := kst r (by omega)
          obtain ⟨o3, p3, h1', _, h3'⟩ := some3 (ks r) hkn
          have hlr := (hpre r (by omega)).2 hr
          have := hanc listed hcl (ks r) o3 p3 h1' h3' (fun ed hm hb => hcl (ks r) o3 hlr h1' ed hm hb) i hin (by rw [← ancOf_eq h3']; exact hb)
          rw [hnl] at this; cases this
      unfold wpOp
      rw [ho]
      simp only
      have hco : compOper P C.G nt ops o = ⟨o.dst, .bad, none⟩ ∨ ∃ g, compG ops o.guard = some g ∧ compOper P C.G nt ops o = ⟨o.dst, compOp P C.G o.op, g⟩ := by
        unfold compOper
        split
        · rename_i g hg _; exact .inr ⟨g, hg, rfl⟩
        · exact .inl rfl
      rcases hco with hco | ⟨g, hcg, hco⟩
      · exfalso
        have := hops i hin _ p hlo hp
        rw [hco] at this
        simp [wantedA, AOp.cls, aopP] at this
      · have hF := hops i hin _ p hlo hp
        rw [hco] at hF
        simp only at hF
        rcases hF with ⟨hw, hv, ham, hne⟩ | ⟨hw, ⟨hc, hv, ham, hne⟩ | ⟨hc, hmem, ham, hne⟩ | ⟨hc, ham, hne, b, hv, hb⟩ | ⟨hc, ham, r, hr, hkr⟩⟩
        · rw [if_neg (by rw [wanted_ok hem hcg hw]; simp)]
          exact mk R m w undef hm (hpre1 hne) hx hnxm (hsame ham) hres1 (Le.refl _) (.inr (by rw [hv]; rfl))
        · rw [if_pos (wanted_ok hem hcg hw)]
          left
          obtain ⟨x, hxv, hrun⟩ := aopP_ok (a := a) (P := P) hem hgl o hv w
          unfold Oper.wp
          rw [hrun]
          exact mk R m w x hm (hpre1 hne) hx hnxm (hsame ham) hres1 (Le.refl _) (.inr hxv)
        · rw [if_pos (wanted_ok hem hcg hw)]
          left
          have hl1 := hload i _ _ _ hmem m hm (fun r hr1 hr2 => by
            cases hbt : (ancOf pl i).testBit (ks r) with
            | false => rfl
            | true =>
              exfalso
              have := hancl (ks r) (kst r hr2).1 (by rw [← ancOf_eq hp]; exact hbt)
              have := (hpre r hr2).1 this
              omega) hkbefore
          have hl2 := aopL_mono hrel (σs := ⟨0, hideB σ0.next n (visK (ancOf pl i) s.am) (Hh m)⟩) (fun id b hid => by
            simp only at hid ⊢
            rw [look_hideB] at hid ⊢
            by_cases hcnd : σ0.next ≤ id ∧ id < σ0.next + n ∧ visK (ancOf pl i) s.am (id - σ0.next) = false
            · rw [if_pos hcnd] at hid; cases hid
            · rw [if_neg hcnd] at hid
              rw [if_neg (fun hh => hcnd ⟨hh.1, hh.2.1, by
                have h3 := hh.2.2
                unfold visK
                cases hbt : (ancOf pl i).testBit (id - σ0.next) with
                | false => rfl
                | true =>
                  have := hancl (id - σ0.next) (by omega) (by rw [← ancOf_eq hp]; exact hbt)
                  simp only [vis, this, Bool.true_and] at h3
                  rw [h3]; rfl⟩)]
              exact hid) hl1
          obtain ⟨x, hxv, hrun⟩ := aopL_ok (P := P) hrel hem o hl2
          unfold Oper.wp
          rw [hrun]
          exact mk R m w x hm (hpre1 hne) hx hnxm (hsame ham) hres1 (Le.refl _) (.inr hxv)
        · rw [if_pos (wanted_ok hem hcg hw)]
          left
          have hRi : R (σ0.next + i) = none := hres i hin hnl
          obtain ⟨x, w', inf, hrun, hnew, hblk, hxv, hok⟩ := aopA_ok (a := a) (P := P) hem hgl o hv hRi w
          unfold Oper.wp
          rw [hrun]
          have hle : Le R (upd R (σ0.next + i) inf) := fun k j hk => by
            by_cases he : k = σ0.next + i
            · subst he; rw [hRi] at hk; cases hk
            · rw [upd_other he]; exact hk
          refine mk (upd R (σ0.next + i) inf) m w' x hm (hpre1 hne) (hx.trans (fun id hid => upd_other (by omega)) (Nat.le_refl σ0.next)) hnxm ?_ ?_ hle (.inr hxv)
          · refine hrel.allocAt hRi (by show σ0.next + i < nx m; omega) hnew b inf hblk hok rfl (fun k => ?_)
            simp only
            rw [look_hideB, look_hideB]
            by_cases he : k = σ0.next + i
            · subst he
              rw [if_pos rfl, if_neg (by
                intro h
                have h3 := h.2.2
                rw [show σ0.next + i - σ0.next = i by omega] at h3
                simp only [vis] at h3
                rw [hLs, ham] at h3
                simp at h3)]
              exact hb m hm hkbefore
            · rw [if_neg he]
              by_cases hrg : σ0.next ≤ k ∧ k < σ0.next + n
              · have : vis (listed.setIfInBounds i true) (k - σ0.next) = vis listed (k - σ0.next) := by
                  simp only [vis]
                  rw [hLs]
                  have : k - σ0.next ≠ i := by omega
                  simp [this]
                rw [this]
              · rw [if_neg (fun h => hrg ⟨h.1, h.2.1⟩), if_neg (fun h => hrg ⟨h.1, h.2.1⟩)]
          · intro k hk hkl
            rw [hLs] at hkl
            simp only [Bool.or_eq_false_iff, decide_eq_false_iff_not] at hkl
            rw [upd_other (by omega)]
            exact hres k hk hkl.2
        · rw [if_pos (wanted_ok hem hcg hw)]
          left
          -- it is the next one that writes
          have hrm : r = m := by
            have h1 : ¬ r < m := fun h => by
              have := (hpre r hr).2 h
              rw [hkr, hnl] at this; cases this
            rcases Nat.lt_or_ge m r with h2 | h2
            · exfalso
              obtain ⟨hkn, o4, p4, σ4, hl4, hp4, hc4, _⟩ := kst m (by omega)
              have hlt := kinc m r h2 hr
              rw [hkr] at hlt
              have := F.kk (ks m) i o4 _ p hlt hl4 hlo hp hc4 (by rw [hco]; exact hc)
              have := hancl (ks m) hkn this
              have := (hpre m (by omega)).1 this
              omega
            · omega
          subst hrm
          obtain ⟨_, o4, p4, σ4, hl4, hp4, hc4, hw4, hden, hHn, hnxn⟩ := kst r hr
          rw [hkr] at hl4 hp4 hw4 hden
          rw [hlo] at hl4; cases hl4
          rw [hp] at hp4; cases hp4
          rw [hco] at hden
          simp only at hden
          have hsub : ∀ id b, look (hideB σ0.next n (visK p.anc s.am) (Hh r)) id = some b → look (hideB σ0.next n (vis listed) (Hh r)) id = some b := by
            intro id b hid
            rw [look_hideB] at hid ⊢
            by_cases hcnd : σ0.next ≤ id ∧ id < σ0.next + n ∧ visK p.anc s.am (id - σ0.next) = false
            · rw [if_pos hcnd] at hid; cases hid
            · rw [if_neg hcnd] at hid
              rw [if_neg (fun hh => hcnd ⟨hh.1, hh.2.1, by
                have h3 := hh.2.2
                unfold visK
                cases hbt : p.anc.testBit (id - σ0.next) with
                | false => rfl
                | true =>
                  have := hancl (id - σ0.next) (by omega) hbt
                  simp only [vis, this, Bool.true_and] at h3
                  rw [h3]; rfl⟩)]
              exact hid
          have hsmall := hrel.shrink (σs := ⟨nx r, hideB σ0.next n (visK p.anc s.am) (Hh r)⟩) rfl hsub
          refine den1_ok hD (C := C.sub R ⟨nx r, hideB σ0.next n (visK p.anc s.am) (Hh r)⟩ w) rfl rfl hsmall hem o hden K Q (fun R' w' x hx' hn' hrel' hv' => ?_)
          have hnle : nx r ≤ σ4.next := hn'
          refine mk R' (r + 1) w' x (by omega) ?_ (hx.trans hx' (show σ0.next ≤ nx r by omega)) (by rw [hnxn]; omega) ?_ ?_ (hle0 hx') hv'
          · intro r' hr'
            rw [hLs]
            simp only [Bool.or_eq_true, decide_eq_true_eq]
            constructor
            · rintro (h | h)
              · rcases Nat.lt_trichotomy r' r with h2 | h2 | h2
                · omega
                · omega
                · have := kinc r r' h2 hr'; omega
              · have := (hpre r' hr').1 h; omega
            · intro h
              by_cases he : r' = r
              · subst he; exact .inl hkr
              · exact .inr ((hpre r' hr').2 (by omega))
          · refine hrel.regrow (σs := ⟨nx r, hideB σ0.next n (visK p.anc s.am) (Hh r)⟩) hsub hrel' hx' hnxn (fun id b hid => ?_)
            simp only at hid ⊢
            rw [look_hideB] at hid
            split at hid
            · cases hid
            · rename_i hvis
              rw [hHn, look_append, look_keepB] at hid
              by_cases hcnd : σ0.next ≤ id ∧ id < σ0.next + n ∧ visK p.anc s.am (id - σ0.next) = false
              · rw [if_pos hcnd] at hid
                cases hlk : look (Hh r) id with
                | none => rw [hlk] at hid; exact .inl hid
                | some b' =>
                  rw [hlk] at hid
                  cases hid
                  right
                  rw [look_hideB, look_hideB, if_pos hcnd]
                  refine ⟨?_, rfl⟩
                  rw [if_neg (fun hh => hvis ⟨hh.1, hh.2.1, by
                    have h3 := hh.2.2
                    simp only [vis] at h3 ⊢
                    rw [hLs]
                    by_cases he : id - σ0.next = i
                    · rw [he, ham]; simp
                    · simp only [he, decide_false, Bool.false_or]; exact h3⟩)]
                  exact hlk
              · rw [if_neg hcnd] at hid
                exact .inl hid
          · intro k hk hkl
            rw [hx' (σ0.next + k) (by show σ0.next + k < nx r; omega)]
            exact hres1 k hk hkl
    -- any order
    have hany : ∀ fuel listed a w, Inv listed a w → (List.range n).countP (fun k => !listed.getD k false) ≤ fuel → wpAny P .any ops Q fuel listed a w := by
      intro fuel
      induction fuel with
      | zero =>
        intro listed a w hI hcnt
        have hall : ∀ k, k < n → listed.getD k false = true := by
          intro k hk
          have h0 : (List.range n).countP (fun k => !listed.getD k false) = 0 := by omega
          have := List.countP_eq_zero.1 h0 k (List.mem_range.2 hk)
          simpa using this
        refine ⟨?_, hfin listed a w hI hall⟩
        apply List.eq_nil_iff_forall_not_mem.2
        intro j hj
        obtain ⟨h1, o, h2, _⟩ := mem_ready.1 hj
        have hjn : j < n := by
          rcases Nat.lt_or_ge j ops.size with h | h
          · omega
          · rw [Array.getElem?_eq_none h] at h2; cases h2
        rw [getD_true_iff hI.1 hjn, hall j hjn] at h1
        cases h1
      | succ fuel ih =>
        intro listed a w hI hcnt
        refine ⟨fun hr => hfin listed a w hI (hready_nil listed hI.1 hr), fun i hi => ?_⟩
        have hin : i < n := by
          obtain ⟨_, o, h2, _⟩ := mem_ready.1 hi
          rcases Nat.lt_or_ge i ops.size with h | h
          · omega
          · rw [Array.getElem?_eq_none h] at h2; cases h2
        have hnl : listed.getD i false = false := by rw [← getD_true_iff hI.1 hin]; exact (mem_ready.1 hi).1
        refine hstep listed a w hI i hi _ (fun a' w' hI' => ih _ a' w' hI' ?_)
        have hsz' : i < listed.size := by rw [hI.1]; exact hin
        have := cnt_lt (p := fun k => !(listed.setIfInBounds i true).getD k false) (q := fun k => !listed.getD k false) (fun k hk => by
          simp only [Bool.not_eq_true'] at hk ⊢
          rw [set_getD hsz'] at hk
          simp only [Bool.or_eq_false_iff] at hk
          exact hk.2) (i := i) (by simp only [hnl]; rfl) (by simp only [set_getD hsz']; simp) (List.range n) (List.mem_range.2 hin)
        omega
    refine wp_region_any hmix ?_
    rw [← hnops]
    have hrepl : ∀ k, (Array.replicate n false).getD k false = false := fun k => by
      simp only [Array.getD_eq_getD_getElem?, Array.getElem?_replicate]
      split <;> rfl
    refine hany n _ a0 _ ⟨by simp, ?_, hd0, R0, 0, Nat.zero_le _, ?_, Ext.refl _ _, by rw [nx0]; exact Nat.le_refl _, ?_, ?_, hnt0, ?_, ?_⟩ ?_
    · intro i o hi; rw [hrepl] at hi; cases hi
    · intro r hr; rw [hrepl]; simp
    · refine (hrel0.drawn (w00.drawn + 1)).congr (fun id hid => hrel0.fresh id (by have h1 : nx 0 ≤ id := hid; rw [nx0] at h1; omega)) (fun k b hk => ?_)
      simp only at hk
      rw [look_hideB] at hk
      split at hk
      · cases hk
      · rename_i hc
        have hnr : ¬ (σ0.next ≤ k ∧ k < σ0.next + n) := fun h => hc ⟨h.1, h.2, by simp only [vis, hrepl, Bool.false_and]⟩
        rw [hz k hnr] at hk
        exact hk
    · intro k hk _; exact hrel0.fresh _ (by omega)
    · intro i o t hi; rw [hrepl] at hi; cases hi
    · intro t v hv _; exact he0.at_ t v hv
    · refine Nat.le_trans (List.countP_le_length) (by simp)
end Go.Og
