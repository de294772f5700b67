/- What the last text leans on, part 2 of 5: merged out of smaller texts. No condition. -/
import Derived.Orders
import Derived.Test.YtabnjnkmdknhaaaGreatDoorQ0
set_option linter.unusedSimpArgs false
namespace Go.Og
variable {P : Program} {G : Nat → Bool} {E : List (Nat × Blk)} {D : Den} {C : Cx}

theorem look_append {α : Type} (l m : List (Nat × α)) (id : Nat) : look (l ++ m) id = match look l id with
    | some b => some b
    | none => look m id := by
  induction l with
  | nil => rfl
  | cons p l ih =>
    obtain ⟨k, b⟩ := p
    by_cases h : k = id
    · simp [look, h]
    · simp only [List.cons_append, look, Nat.beq_eq, h, if_false, ih]
theorem hid_iff {n0 n id : Nat} {p : Nat → Bool} : (Nat.ble n0 id && Nat.blt id (n0 + n) && !p (id - n0)) = true ↔ (n0 ≤ id ∧ id < n0 + n ∧ p (id - n0) = false) := by
  simp only [Bool.and_eq_true, Nat.ble_eq, Nat.blt_eq, Bool.not_eq_true', and_assoc]
theorem look_hideB (n0 n : Nat) (p : Nat → Bool) (l : List (Nat × Blk)) (id : Nat) :
    look (hideB n0 n p l) id = if n0 ≤ id ∧ id < n0 + n ∧ p (id - n0) = false then none else look l id := by
  induction l with
  | nil => simp [hideB, look]
  | cons q l ih =>
    obtain ⟨k, b⟩ := q
    unfold hideB
    by_cases hk : n0 ≤ k ∧ k < n0 + n ∧ p (k - n0) = false
    · rw [if_pos (hid_iff.2 hk), ih]
      by_cases h : k = id
      · subst h; rw [if_pos hk, if_pos hk]
      · simp only [look, Nat.beq_eq, h, if_false]
    · rw [if_neg (fun hh => hk (hid_iff.1 hh))]
      by_cases h : k = id
      · subst h; rw [if_neg hk]; simp [look]
      · simp only [look, Nat.beq_eq, h, if_false, ih]
theorem look_keepB (n0 n : Nat) (p : Nat → Bool) (l : List (Nat × Blk)) (id : Nat) :
    look (keepB n0 n p l) id = if n0 ≤ id ∧ id < n0 + n ∧ p (id - n0) = false then look l id else none := by
  induction l with
  | nil => simp [keepB, look]
  | cons q l ih =>
    obtain ⟨k, b⟩ := q
    unfold keepB
    by_cases hk : n0 ≤ k ∧ k < n0 + n ∧ p (k - n0) = false
    · rw [if_pos (hid_iff.2 hk)]
      by_cases h : k = id
      · subst h; rw [if_pos hk]; simp [look]
      · simp only [look, Nat.beq_eq, h, if_false, ih]
    · rw [if_neg (fun hh => hk (hid_iff.1 hh)), ih]
      by_cases h : k = id
      · subst h; rw [if_neg hk, if_neg hk]
      · simp only [look, Nat.beq_eq, h, if_false]
theorem hideB_congr {n0 n : Nat} {p q : Nat → Bool} (h : ∀ k, k < n → p k = q k) : ∀ l, hideB n0 n p l = hideB n0 n q l
  | [] => rfl
  | (id, b) :: l => by
    unfold hideB
    rw [hideB_congr h l]
    by_cases hk : n0 ≤ id ∧ id < n0 + n
    · rw [h (id - n0) (by omega)]
    · have : (Nat.ble n0 id && Nat.blt id (n0 + n)) = false := by
        cases hb : (Nat.ble n0 id && Nat.blt id (n0 + n)) with
        | false => rfl
        | true => simp only [Bool.and_eq_true, Nat.ble_eq, Nat.blt_eq] at hb; exact (hk hb).elim
      rw [this]; simp
theorem keepB_congr {n0 n : Nat} {p q : Nat → Bool} (h : ∀ k, k < n → p k = q k) : ∀ l, keepB n0 n p l = keepB n0 n q l
  | [] => rfl
  | (id, b) :: l => by
    unfold keepB
    rw [keepB_congr h l]
    by_cases hk : n0 ≤ id ∧ id < n0 + n
    · rw [h (id - n0) (by omega)]
    · have : (Nat.ble n0 id && Nat.blt id (n0 + n)) = false := by
        cases hb : (Nat.ble n0 id && Nat.blt id (n0 + n)) with
        | false => rfl
        | true => simp only [Bool.and_eq_true, Nat.ble_eq, Nat.blt_eq] at hb; exact (hk hb).elim
      rw [this]; simp

mutual
theorem beq_ok : ∀ (a b : V), V.beq a b = true → a = b
  | .dead, b, h => by cases b <;> simp [V.beq] at h
  | .bool a, b, h => by cases b <;> simp [V.beq] at h; subst h; rfl
  | .int k a, b, h => by cases b <;> simp [V.beq] at h; obtain ⟨rfl, rfl⟩ := h; rfl
  | .str a, b, h => by cases b <;> simp [V.beq] at h; subst h; rfl
  | .nilp, b, h => by cases b <;> simp [V.beq] at h; rfl
  | .ptr _ _, b, h => by cases b <;> simp [V.beq] at h; obtain ⟨rfl, rfl⟩ := h; rfl
  | .nils, b, h => by cases b <;> simp [V.beq] at h; rfl
  | .sl _ _ _ _, b, h => by cases b <;> simp [V.beq] at h; obtain ⟨⟨⟨rfl, rfl⟩, rfl⟩, rfl⟩ := h; rfl
  | .sle _ _ _ _, b, h => by cases b <;> simp [V.beq] at h; obtain ⟨⟨⟨rfl, rfl⟩, rfl⟩, rfl⟩ := h; rfl
  | .nilm, b, h => by cases b <;> simp [V.beq] at h; rfl
  | .mp _, b, h => by cases b <;> simp [V.beq] at h; subst h; rfl
  | .fn f x y, b, h => by
    cases b with
    | fn g u v =>
      simp only [V.beq, Bool.and_eq_true, Nat.beq_eq] at h
      obtain ⟨⟨rfl, h1⟩, h2⟩ := h
      rw [beqs_ok x u h1, beqs_ok y v h2]
    | _ => simp [V.beq] at h
  | .nilf, b, h => by cases b <;> simp [V.beq] at h; rfl
  | .ifc t x, b, h => by
    cases b with
    | ifc u y =>
      simp only [V.beq, Bool.and_eq_true, Nat.beq_eq] at h
      obtain ⟨rfl, h1⟩ := h
      rw [beq_ok x y h1]
    | _ => simp [V.beq] at h
  | .nili, b, h => by cases b <;> simp [V.beq] at h; rfl
  | .agg l, b, h => by
    cases b with
    | agg m => simp only [V.beq] at h; rw [beqs_ok l m h]
    | _ => simp [V.beq] at h
  | .tup l, b, h => by
    cases b with
    | tup m => simp only [V.beq] at h; rw [beqs_ok l m h]
    | _ => simp [V.beq] at h
theorem beqs_ok : ∀ (l m : List V), beqs l m = true → l = m
  | [], m, h => by cases m <;> simp [beqs] at h; rfl
  | a :: l, m, h => by
    cases m with
    | nil => simp [beqs] at h
    | cons b m =>
      simp only [beqs, Bool.and_eq_true] at h
      rw [beq_ok a b h.1, beqs_ok l m h.2]
end

/-! ### parts of a heap -/
/-- What a call may touch that is given a part of the heap alone. -/
def Cx.sub (C : Cx) (R : Ren) (σs : H) (w : World) : Cx :=
  { C with O := fun blk => w.heap.size ≤ blk ∨ ∃ id b j, look σs.bl id = some b ∧ R id = some j ∧ j.blk = blk, w0 := w }

theorem sub_O {R : Ren} {σ σs : H} {w : World} (h : Rel C R σ w) (hsub : ∀ id b, look σs.bl id = some b → look σ.bl id = some b) {blk : Nat} (hO : (C.sub R σs w).O blk) : C.O blk := by
  rcases hO with hge | ⟨id, b, j, hb, hj, rfl⟩
  · exact h.new _ (Nat.le_trans h.size hge)
  · obtain ⟨j', hj', hO', _⟩ := h.own id b (hsub id b hb)
    rw [hj] at hj'; cases hj'; exact hO'

theorem Rel.shrink {R : Ren} {σ σs : H} {w : World} (h : Rel C R σ w) (hn : σs.next = σ.next) (hsub : ∀ id b, look σs.bl id = some b → look σ.bl id = some b) : Rel (C.sub R σs w) R σs w where
  fresh id hid := h.fresh id (hn ▸ hid)
  own id b hb := by
    obtain ⟨j, hj, _, hok⟩ := h.own id b (hsub id b hb)
    exact ⟨j, hj, .inr ⟨id, b, j, hb, hj, rfl⟩, hok⟩
  inj id id' b b' i i' hb hb' hi hi' hbl := h.inj id id' b b' i i' (hsub _ _ hb) (hsub _ _ hb') hi hi' hbl
  ext id b hb := by
    obtain ⟨j, hj, hno, hok⟩ := h.ext id b hb
    exact ⟨j, hj, fun hO => hno (sub_O h hsub hO), hok⟩
  glob := h.glob
  fr _ _ := rfl
  size := Nat.le_refl _
  new _ hblk := .inl hblk
  os := rfl
  tape := rfl
  output := rfl

theorem Rel.regrow {R R' : Ren} {σ σs σ' σ2 : H} {w w' : World} (h : Rel C R σ w) (hsub : ∀ id b, look σs.bl id = some b → look σ.bl id = some b)
    (hs : Rel (C.sub R σs w) R' σ' w') (hx : Ext σ.next R R') (h2 : σ2.next = σ'.next)
    (hl : ∀ id b, look σ2.bl id = some b → look σ'.bl id = some b ∨ (look σ.bl id = some b ∧ look σs.bl id = none)) : Rel C R' σ2 w' := by
  have hle : Le R R' := hx.le h.fresh
  have hOO : ∀ blk, (C.sub R σs w).O blk → C.O blk := fun blk hO => sub_O h hsub hO
  have hno : ∀ id b j, look σ.bl id = some b → look σs.bl id = none → R id = some j → ¬ (C.sub R σs w).O j.blk := by
    intro id b j hb hnone hj hO
    rcases hO with hge | ⟨id2, b2, j2, hb2, hj2, hbl⟩
    · obtain ⟨j', hj', _, hok⟩ := h.own id b hb
      rw [hj] at hj'; cases hj'
      have := hok.lt
      omega
    · have := h.inj id2 id b2 b j2 j (hsub _ _ hb2) hb hj2 hj hbl
      subst this
      rw [hnone] at hb2; cases hb2
  have hR : ∀ id b, look σ.bl id = some b → R' id = R id := fun id b hb => hx id (h.next_of_own hb)
  refine ⟨fun id hid => hs.fresh id (h2 ▸ hid), ?_, ?_, ?_, ?_, ?_, ?_, h.new, hs.os.trans h.os, hs.tape.trans h.tape, hs.output.trans h.output⟩
  · intro id b hb
    rcases hl id b hb with h1 | ⟨h1, h1n⟩
    · obtain ⟨j, hj, hO, hok⟩ := hs.own id b h1
      exact ⟨j, hj, hOO _ hO, hok⟩
    · obtain ⟨j, hj, hO, hok⟩ := h.own id b h1
      exact ⟨j, by rw [hR id b h1]; exact hj, hO, hok.mono hle (hs.fr _ (hno id b j h1 h1n hj))⟩
  · intro id id' b b' i i' hb hb' hi hi' hbl
    rcases hl id b hb with h1 | ⟨h1, h1n⟩
    · rcases hl id' b' hb' with h1' | ⟨h1', h1n'⟩
      · exact hs.inj id id' b b' i i' h1 h1' hi hi' hbl
      · exfalso
        obtain ⟨j, hj, hO, _⟩ := hs.own id b h1
        rw [hi] at hj; cases hj
        rw [hR id' b' h1'] at hi'
        exact hno id' b' i' h1' h1n' hi' (hbl ▸ hO)
    · rcases hl id' b' hb' with h1' | ⟨h1', h1n'⟩
      · exfalso
        obtain ⟨j, hj, hO, _⟩ := hs.own id' b' h1'
        rw [hi'] at hj; cases hj
        rw [hR id b h1] at hi
        exact hno id b i h1 h1n hi (hbl ▸ hO)
      · rw [hR id b h1] at hi; rw [hR id' b' h1'] at hi'
        exact h.inj id id' b b' i i' h1 h1' hi hi' hbl
  · intro id b hb
    obtain ⟨j, hj, hn, hok⟩ := h.ext id b hb
    exact ⟨j, hle _ _ hj, hn, hok.mono hle (hs.fr _ fun hO => hn (hOO _ hO))⟩
  · intro g hg
    obtain ⟨j, hj, hb⟩ := h.glob g hg
    exact ⟨j, hle _ _ hj, hb⟩
  · intro blk hn
    rw [← h.fr blk hn]
    exact hs.fr blk fun hO => hn (hOO _ hO)
  · exact Nat.le_trans h.size hs.size

/-- A new block, with a number that was laid by for it. -/
theorem Rel.allocAt {R : Ren} {σ σ2 : H} {w w' : World} (h : Rel C R σ w) {id : Nat} (hid : R id = none) (hlt : id < σ.next) (hn : NewBlk w w') (b : Blk) (i : BI) (hi : i.blk = w.heap.size)
    (hb : OwnOk (upd R id i) i b w') (h2 : σ2.next = σ.next) (hl : ∀ k, look σ2.bl k = if k = id then some b else look σ.bl k) : Rel C (upd R id i) σ2 w' := by
  have hle : Le R (upd R id i) := fun k j hk => by
    by_cases he : k = id
    · subst he; rw [hid] at hk; cases hk
    · rw [upd_other he]; exact hk
  have hold := hn.old
  have hO : C.O w.heap.size := h.new _ h.size
  refine ⟨?_, ?_, ?_, ?_, ?_, ?_, ?_, h.new, hn.os.trans h.os, hn.tape.trans h.tape, hn.output.trans h.output⟩
  · intro k hk
    rw [upd_other (by omega)]; exact h.fresh k (by omega)
  · intro k c hc
    rw [hl] at hc
    by_cases he : k = id
    · subst he
      rw [if_pos rfl] at hc; cases hc
      exact ⟨i, upd_same _ _ _, hi ▸ hO, hb⟩
    · rw [if_neg he] at hc
      obtain ⟨j, hj, hOj, hok⟩ := h.own k c hc
      exact ⟨j, by rw [upd_other he]; exact hj, hOj, hok.mono hle (hold _ hok.lt)⟩
  · intro k k' c c' j j' hc hc' hj hj' hbl
    rw [hl] at hc hc'
    by_cases he : k = id
    · by_cases he' : k' = id
      · rw [he, he']
      · exfalso
        subst he
        rw [upd_same] at hj; cases hj
        rw [if_neg he'] at hc'
        rw [upd_other he'] at hj'
        obtain ⟨q, hq, _, hok⟩ := h.own k' c' hc'
        rw [hq] at hj'; cases hj'
        have := hok.lt
        omega
    · by_cases he' : k' = id
      · exfalso
        subst he'
        rw [upd_same] at hj'; cases hj'
        rw [if_neg he] at hc
        rw [upd_other he] at hj
        obtain ⟨q, hq, _, hok⟩ := h.own k c hc
        rw [hq] at hj; cases hj
        have := hok.lt
        omega
      · rw [if_neg he] at hc; rw [if_neg he'] at hc'
        rw [upd_other he] at hj; rw [upd_other he'] at hj'
        exact h.inj k k' c c' j j' hc hc' hj hj' hbl
  · intro k c hc
    obtain ⟨j, hj, hno, hok⟩ := h.ext k c hc
    refine ⟨j, hle _ _ hj, hno, hok.mono hle (hold _ ?_)⟩
    rcases Nat.lt_or_ge j.blk w.heap.size with hl | hl
    · exact hl
    · exact absurd (h.new _ (Nat.le_trans h.size hl)) hno
  · intro g hg
    obtain ⟨j, hj, hb⟩ := h.glob g hg
    exact ⟨j, hle _ _ hj, hb⟩
  · intro blk hno
    rw [← h.fr blk hno]
    refine hold _ ?_
    rcases Nat.lt_or_ge blk w.heap.size with hl | hl
    · exact hl
    · exact absurd (h.new _ (Nat.le_trans h.size hl)) hno
  · rw [hn.size]; have := h.size; omega

/-- The same heap, looked at. -/
theorem Rel.congr {R : Ren} {σ σ2 : H} {w : World} (h : Rel C R σ w) (hn : ∀ id, σ2.next ≤ id → R id = none) (hl : ∀ k b, look σ2.bl k = some b → look σ.bl k = some b) : Rel C R σ2 w :=
  ⟨hn, fun k c hk => h.own k c (hl k c hk), fun k k' c c' i i' hk hk' => h.inj k k' c c' i i' (hl k c hk) (hl k' c' hk'), h.ext, h.glob, h.fr, h.size, h.new, h.os, h.tape, h.output⟩

/-- What a part of the heap answers the heap answers. -/
theorem rd_mono {R : Ren} {σ σs : H} {w : World} (h : Rel C R σ w) (hsub : ∀ id b, look σs.bl id = some b → look σ.bl id = some b) {id : Nat} {l : List V} (hr : rd C.E σs id = some l) : rd C.E σ id = some l := by
  unfold rd at hr ⊢
  cases hs : look σs.bl id with
  | some b => rw [hs] at hr; rw [hsub id b hs]; exact hr
  | none =>
    rw [hs] at hr
    cases he : look C.E id with
    | none => rw [he] at hr; cases hr
    | some b =>
      rw [he] at hr
      cases ho : look σ.bl id with
      | none => exact hr
      | some c =>
        exfalso
        obtain ⟨j, hj, hO, _⟩ := h.own id c ho
        obtain ⟨j', hj', hno, _⟩ := h.ext id b he
        rw [hj] at hj'; cases hj'
        exact hno hO
theorem rdN_mono {R : Ren} {σ σs : H} {w : World} (h : Rel C R σ w) (hsub : ∀ id b, look σs.bl id = some b → look σ.bl id = some b) {id off n : Nat} {l : List V} (hr : rdN C.E σs id off n = some l) : rdN C.E σ id off n = some l := by
  unfold rdN at hr ⊢
  cases hs : rd C.E σs id with
  | none => rw [hs] at hr; cases hr
  | some m => rw [hs] at hr; rw [rd_mono h hsub hs]; exact hr
theorem src_mono {R : Ren} {σ σs : H} {w : World} (h : Rel C R σ w) (hsub : ∀ id b, look σs.bl id = some b → look σ.bl id = some b) {esz : Nat} {x : V} {q : Nat × List V} (hr : srcCells C.E σs esz x = some q) : srcCells C.E σ esz x = some q := by
  unfold srcCells at hr ⊢
  split at hr
  · exact hr
  · exact hr
  · simp only [Option.map_eq_some_iff] at hr ⊢
    obtain ⟨m, hm, rfl⟩ := hr
    exact ⟨m, rdN_mono h hsub hm, rfl⟩
  · exact hr
  · cases hr
theorem aopL_mono {R : Ren} {σ σs : H} {w : World} (h : Rel C R σ w) (hsub : ∀ id b, look σs.bl id = some b → look σ.bl id = some b) {op : AOp} {e : Env} {v : V} (hr : aopL C.E op e σs = some v) : aopL C.E op e σ = some v := by
  unfold aopL at hr ⊢
  split at hr
  · split at hr
    · split at hr
      · rename_i hq; rw [rd_mono h hsub hq]; exact hr
      · cases hr
    · cases hr
  · split at hr
    · split at hr
      · rename_i hq; rw [rdN_mono h hsub hq]; exact hr
      · cases hr
    · cases hr
  · split at hr
    · cases hr
    · rename_i hns
      rw [if_neg hns]
      split at hr
      · rename_i hq; rw [src_mono h hsub hq]; exact hr
      · cases hr
  · unfold lookupV at hr ⊢
    split at hr
    · split at hr
      · rename_i hq; rw [hsub _ _ hq]; exact hr
      · cases hr
    · cases hr
  · unfold faddr0V at hr ⊢
    split at hr
    · split at hr
      · rename_i hq; rw [hsub _ _ hq]; exact hr
      · cases hr
    · cases hr
  · cases hr
end Go.Og

set_option linter.unusedSimpArgs false
namespace Go.Og
variable {P : Program} {G : Nat → Bool} {E : List (Nat × Blk)} {D : Den} {C : Cx}

theorem allN_ok : ∀ {n : Nat} {p : Nat → Bool}, allN n p = true → ∀ k, k < n → p k = true
  | n + 1, p, h, k, hk => by
    simp only [allN, Bool.and_eq_true] at h
    by_cases he : k = n
    · subst he; exact h.1
    · exact allN_ok h.2 k (by omega)

structure PlanF (ops : Array Oper) (l : List AOper) (pl : List DP) : Prop where
  len : pl.length = ops.size
  llen : l.length = ops.size
  edges : ∀ (i : Nat) (o : Oper), ops[i]? = some o → ∀ e ∈ o.after, Region.binds .any e = true → e.on < i
  anc : ∀ (i : Nat) (o : Oper) (p : DP), ops[i]? = some o → pl[i]? = some p → ∀ k, k < ops.size → p.anc.testBit k = true → ∃ e ∈ o.after, Region.binds .any e = true ∧ (e.on = k ∨ (ancOf pl e.on).testBit k = true)
  dsts : ∀ (i k : Nat) (o o' : Oper) (p p' : DP), i ≠ k → ops[i]? = some o → ops[k]? = some o' → pl[i]? = some p → pl[k]? = some p' → ∀ (t : Nat), o.dst = some t →
    o'.dst ≠ some t ∧ (memN p'.looks t = true → p'.anc.testBit i = true ∨ p.anc.testBit k = true)
  kk : ∀ (i k : Nat) (ao ao' : AOper) (p' : DP), i < k → l[i]? = some ao → l[k]? = some ao' → pl[k]? = some p' → ao.op.cls = .k → ao'.op.cls = .k → p'.anc.testBit i = true

theorem planOk_ok {ops : Array Oper} {l : List AOper} {pl : List DP} (hl : l.length = ops.size) (h : planOk ops l pl = true) : PlanF ops l pl := by
  unfold planOk at h
  simp only [Bool.and_eq_true, Nat.beq_eq] at h
  obtain ⟨hlen, h⟩ := h
  have hlt : ∀ {i : Nat} {o : Oper}, ops[i]? = some o → i < ops.size := fun {i o} ho => by
    rcases Nat.lt_or_ge i ops.size with h | h
    · exact h
    · rw [Array.getElem?_eq_none h] at ho; cases ho
  have hmain := allN_ok h
  have hl_lt : ∀ {i : Nat} {o : AOper}, l[i]? = some o → i < ops.size := fun {i o} ho => by
    rcases Nat.lt_or_ge i l.length with h | h
    · omega
    · rw [List.getElem?_eq_none h] at ho; cases ho
  have some3 : ∀ i, i < ops.size → ∃ o ao p, ops[i]? = some o ∧ l[i]? = some ao ∧ pl[i]? = some p := fun i hi =>
    ⟨_, _, _, Array.getElem?_eq_getElem hi, List.getElem?_eq_getElem (by omega), List.getElem?_eq_getElem (by omega)⟩
  refine ⟨hlen, hl, ?_, ?_, ?_, ?_⟩
  · intro i o ho e he hb
    obtain ⟨o1, ao, p, h1, h2, h3⟩ := some3 i (hlt ho)
    have hm := hmain i (hlt ho)
    rw [h1, h2, h3] at hm
    rw [ho] at h1; cases h1
    simp only [Bool.and_eq_true] at hm
    have := List.all_eq_true.1 hm.1 e (by simpa using he)
    simp only [hb, Bool.not_true, Bool.false_or, Nat.blt_eq] at this
    exact this
  · intro i o p ho hp k hk hbit
    obtain ⟨o1, ao, p1, h1, h2, h3⟩ := some3 i (hlt ho)
    have hm := hmain i (hlt ho)
    rw [h1, h2, h3] at hm
    rw [ho] at h1; cases h1
    rw [hp] at h3; cases h3
    simp only [Bool.and_eq_true] at hm
    have hk2 := allN_ok hm.2 k hk
    simp only [Bool.and_eq_true] at hk2
    have := hk2.1
    rw [hbit] at this
    simp only [Bool.not_true, Bool.false_or, List.any_eq_true, Bool.and_eq_true, Bool.or_eq_true, Nat.beq_eq] at this
    obtain ⟨e, he, hb, hr⟩ := this
    exact ⟨e, by simpa using he, hb, hr⟩
  · intro i k o o' p p' hne ho ho' hp hp' t ht
    obtain ⟨o1, ao, p1, h1, h2, h3⟩ := some3 i (hlt ho)
    obtain ⟨o2, ao2, p2, h1', h2', h3'⟩ := some3 k (hlt ho')
    have hm := hmain i (hlt ho)
    rw [h1, h2, h3] at hm
    rw [ho] at h1; cases h1
    rw [hp] at h3; cases h3
    rw [ho'] at h1'; cases h1'
    rw [hp'] at h3'; cases h3'
    simp only [Bool.and_eq_true] at hm
    have hk2 := allN_ok hm.2 k (hlt ho')
    have hik : Nat.beq i k = false := Bool.eq_false_iff.2 (by rw [ne_eq, Nat.beq_eq]; exact hne)
    simp only [Bool.and_eq_true, hik, Bool.false_or] at hk2
    have := hk2.2
    rw [ho', h2', hp'] at this
    simp only [ht, Bool.and_eq_true] at this
    obtain ⟨⟨h4, h5⟩, _⟩ := this
    constructor
    · intro heq
      rw [heq] at h4
      simp at h4
    · intro hmem
      rw [hmem] at h5
      simpa using h5
  · intro i k ao ao' p' hik ha ha' hp' hc hc'
    obtain ⟨o1, ao1, p1, h1, h2, h3⟩ := some3 i (hl_lt ha)
    obtain ⟨o2, ao2, p2, h1', h2', h3'⟩ := some3 k (hl_lt ha')
    have hm := hmain i (hl_lt ha)
    rw [h1, h2, h3] at hm
    rw [ha] at h2; cases h2
    rw [ha'] at h2'; cases h2'
    rw [hp'] at h3'; cases h3'
    simp only [Bool.and_eq_true] at hm
    have hk2 := allN_ok hm.2 k (hl_lt ha')
    have hne : Nat.beq i k = false := Bool.eq_false_iff.2 (by rw [ne_eq, Nat.beq_eq]; omega)
    simp only [Bool.and_eq_true, hne, Bool.false_or] at hk2
    have := hk2.2
    rw [h1', ha', hp'] at this
    simp only [Bool.and_eq_true, hc, hc'] at this
    have := this.2
    have hb : Nat.blt i k = true := by simpa using hik
    rw [hb] at this
    simpa using this

theorem PlanF.ancLt {ops : Array Oper} {l : List AOper} {pl : List DP} (h : PlanF ops l pl) : ∀ (i : Nat) (p : DP), pl[i]? = some p → ∀ (k : Nat), k < ops.size → p.anc.testBit k = true → k < i := by
  intro i
  induction i using Nat.strongRecOn with
  | _ i ih =>
    intro p hp k hk hb
    have hi : i < ops.size := by
      rcases Nat.lt_or_ge i pl.length with h1 | h1
      · have := h.len; omega
      · rw [List.getElem?_eq_none h1] at hp; cases hp
    obtain ⟨e, he, hbe, hr⟩ := h.anc i ops[i] p (Array.getElem?_eq_getElem hi) hp k hk hb
    have hlt := h.edges i ops[i] (Array.getElem?_eq_getElem hi) e he hbe
    rcases hr with rfl | hr
    · exact hlt
    · have hel : e.on < pl.length := by have := h.len; omega
      have hp' : pl[e.on]? = some pl[e.on] := List.getElem?_eq_getElem hel
      have : (pl[e.on]).anc.testBit k = true := by
        simpa [ancOf, List.getD_eq_getElem?_getD, hp'] using hr
      have := ih e.on hlt _ hp' k hk this
      omega

/-- What the walk in the order of the text leaves, as far as operation i. -/
structure Tr (E : List (Nat × Blk)) (D : Den) (l : List AOper) (pl : List DP) (n0 n : Nat) (e0 : Env) (h0 : List (Nat × Blk)) (i : Nat) (s : DS) where
  vals : Nat → V
  envs : Nat → Env
  Hh : Nat → List (Nat × Blk)
  nx : Nat → Nat
  ks : Nat → Nat
  M : Nat
  ssl : s.ss.length = M + 1
  ssg : ∀ (m : Nat), m ≤ M → s.ss[M - m]? = some (Hh m)
  ksl : s.ks.length = M
  ksg : ∀ (r : Nat), r < M → s.ks[M - 1 - r]? = some (ks r)
  ke : s.e = envs i
  ez : envs 0 = e0
  es : ∀ (k : Nat), k < i → ∀ (o : AOper), l[k]? = some o → envs (k + 1) = putE (envs k) o.dst (vals k)
  nx0 : nx 0 = n0 + n
  nxs : s.nx = nx M
  hz : ∀ id, ¬ (n0 ≤ id ∧ id < n0 + n) → look (Hh 0) id = look h0 id
  ops : ∀ (k : Nat), k < i → ∀ (o : AOper) (p : DP), l[k]? = some o → pl[k]? = some p →
    (wantedA (restr p.looks (envs k)) o.guard = some false ∧ vals k = undefV ∧ s.am.testBit k = false ∧ ∀ r, r < M → ks r ≠ k) ∨
    (wantedA (restr p.looks (envs k)) o.guard = some true ∧
      ((o.op.cls = .p ∧ aopP o.op (restr p.looks (envs k)) = some (vals k) ∧ s.am.testBit k = false ∧ ∀ r, r < M → ks r ≠ k) ∨
       (o.op.cls = .l ∧ (k, o.op, restr p.looks (envs k), vals k) ∈ s.ls ∧ s.am.testBit k = false ∧ ∀ r, r < M → ks r ≠ k) ∨
       (o.op.cls = .a ∧ s.am.testBit k = true ∧ (∀ r, r < M → ks r ≠ k) ∧ ∃ b, aopA o.op (restr p.looks (envs k)) (n0 + k) = some (vals k, b) ∧
          ∀ m, m ≤ M → (∀ r, r < m → (ancOf pl (ks r)).testBit k = false) → look (Hh m) (n0 + k) = some b) ∨
       (o.op.cls = .k ∧ s.am.testBit k = false ∧ ∃ r, r < M ∧ ks r = k)))
  amlt : ∀ k, s.am.testBit k = true → k < i
  kst : ∀ r, r < M → ks r < i ∧ ∃ (o : AOper) (p : DP) (σ' : H), l[ks r]? = some o ∧ pl[ks r]? = some p ∧ o.op.cls = .k ∧ wantedA (restr p.looks (envs (ks r))) o.guard = some true ∧
    den1 E D o.op (restr p.looks (envs (ks r))) ⟨nx r, hideB n0 n (visK p.anc s.am) (Hh r)⟩ = some (vals (ks r), σ') ∧
    Hh (r + 1) = keepB n0 n (visK p.anc s.am) (Hh r) ++ σ'.bl ∧ nx (r + 1) = σ'.next
  kinc : ∀ r r', r < r' → r' < M → ks r < ks r'

theorem testBit_or_pow {a i k : Nat} : (a ||| 2 ^ i).testBit k = (a.testBit k || decide (i = k)) := by
  rw [Nat.testBit_or, Nat.testBit_two_pow]

theorem Tr.start (E : List (Nat × Blk)) (D : Den) (l : List AOper) (pl : List DP) (n0 n : Nat) (e0 : Env) (h0 : List (Nat × Blk)) : Nonempty (Tr E D l pl n0 n e0 h0 0 ⟨e0, n0 + n, [h0], [], 0, []⟩) :=
  ⟨{ vals := fun _ => .dead, envs := fun _ => e0, Hh := fun _ => h0, nx := fun _ => n0 + n, ks := fun _ => 0, M := 0,
     ssl := rfl, ssg := fun m hm => by have : m = 0 := by omega
                                       subst this; rfl
     ksl := rfl, ksg := fun r hr => by omega
     ke := rfl, ez := rfl, es := fun k hk => by omega
     nx0 := rfl, nxs := rfl, hz := fun _ _ => rfl
     ops := fun k hk => by omega
     amlt := fun k hk => by simp at hk
     kst := fun r hr => by omega
     kinc := fun r r' h h' => by omega }⟩

def ins {α : Type} (f : Nat → α) (i : Nat) (v : α) (k : Nat) : α := if k = i then v else f k
theorem ins_same {α : Type} (f : Nat → α) (i : Nat) (v : α) : ins f i v i = v := if_pos rfl
theorem ins_ne {α : Type} (f : Nat → α) {i k : Nat} (v : α) (h : k ≠ i) : ins f i v k = f k := if_neg h

/-- A step that writes nothing and makes nothing. -/
theorem Tr.quiet {l : List AOper} {pl : List DP} {n0 n : Nat} {e0 : Env} {h0 : List (Nat × Blk)} {i : Nat} {s : DS} (T : Tr E D l pl n0 n e0 h0 i s) {o : AOper} {p : DP} (ho : l[i]? = some o) (hp : pl[i]? = some p) (v : V) (ls : List (Nat × AOp × Env × V))
    (hls : ∀ x, x ∈ s.ls → x ∈ ls)
    (hcase : (wantedA (restr p.looks s.e) o.guard = some false ∧ v = undefV) ∨ (wantedA (restr p.looks s.e) o.guard = some true ∧
      ((o.op.cls = .p ∧ aopP o.op (restr p.looks s.e) = some v) ∨ (o.op.cls = .l ∧ (i, o.op, restr p.looks s.e, v) ∈ ls)))) :
    Nonempty (Tr E D l pl n0 n e0 h0 (i + 1) { s with e := putE s.e o.dst v, ls := ls }) := by
  obtain ⟨vals, envs, Hh, nx, ks, M, ssl, ssg, ksl, ksg, ke, ez, es, nx0, nxs, hz, ops, amlt, kst, kinc⟩ := T
  have hne : ∀ r, r < M → ks r ≠ i := fun r hr => by have := (kst r hr).1; omega
  have ham : s.am.testBit i = false := by
    cases hb : s.am.testBit i with
    | false => rfl
    | true => have := amlt i hb; omega
  have hval : ∀ k, k < i → ins vals i v k = vals k := fun k hk => ins_ne _ _ (by omega)
  have henv : ∀ k, k < i + 1 → ins envs (i + 1) (putE s.e o.dst v) k = envs k := fun k hk => ins_ne _ _ (by omega)
  refine ⟨{ vals := ins vals i v, envs := ins envs (i + 1) (putE s.e o.dst v), Hh := Hh, nx := nx, ks := ks, M := M,
            ssl := ssl, ssg := ssg, ksl := ksl, ksg := ksg, ke := (ins_same _ _ _).symm, ez := by rw [henv 0 (by omega)]; exact ez, es := ?_, nx0 := nx0, nxs := nxs, hz := hz, ops := ?_, amlt := fun k hk => Nat.lt_succ_of_lt (amlt k hk), kst := ?_, kinc := kinc }⟩
  · intro k hk o' ho'
    by_cases he : k = i
    · subst he
      rw [ho] at ho'; cases ho'
      rw [ins_same, ins_same, henv k (by omega), ke]
    · rw [henv k (by omega), hval k (by omega), henv (k + 1) (by omega)]
      exact es k (by omega) o' ho'
  · intro k hk o' p' ho' hp'
    by_cases he : k = i
    · subst he
      rw [ho] at ho'; cases ho'
      rw [hp] at hp'; cases hp'
      rw [henv k (by omega), ← ke, ins_same]
      rcases hcase with ⟨h1, h2⟩ | ⟨h1, h2⟩
      · exact .inl ⟨h1, h2, ham, hne⟩
      · refine .inr ⟨h1, ?_⟩
        rcases h2 with ⟨h2, h3⟩ | ⟨h2, h3⟩
        · exact .inl ⟨h2, h3, ham, hne⟩
        · exact .inr (.inl ⟨h2, h3, ham, hne⟩)
    · rw [henv k (by omega), hval k (by omega)]
      rcases ops k (by omega) o' p' ho' hp' with h1 | ⟨h1, h2 | ⟨h2, h3, h4⟩ | h2 | h2⟩
      · exact .inl h1
      · exact .inr ⟨h1, .inl h2⟩
      · exact .inr ⟨h1, .inr (.inl ⟨h2, hls _ h3, h4⟩)⟩
      · exact .inr ⟨h1, .inr (.inr (.inl h2))⟩
      · exact .inr ⟨h1, .inr (.inr (.inr h2))⟩
  · intro r hr
    obtain ⟨h1, o', p', σ', h2, h3, h4, h5, h6, h7, h8⟩ := kst r hr
    refine ⟨by omega, o', p', σ', h2, h3, h4, ?_, ?_, h7, h8⟩
    · rw [henv _ (by omega)]; exact h5
    · rw [henv _ (by omega), hval _ h1]; exact h6
end Go.Og

set_option linter.unusedSimpArgs false
namespace Go.Og
variable {P : Program} {G : Nat → Bool} {E : List (Nat × Blk)} {D : Den} {C : Cx}

theorem ancOf_eq {pl : List DP} {i : Nat} {p : DP} (h : pl[i]? = some p) : ancOf pl i = p.anc := by simp [ancOf, List.getD_eq_getElem?_getD, h]

/-- An operation that makes a block. -/
theorem Tr.make {ops' : Array Oper} {l : List AOper} {pl : List DP} (F : PlanF ops' l pl) {n0 n : Nat} (hn : n = ops'.size) {e0 : Env} {h0 : List (Nat × Blk)} {i : Nat} {s : DS} (T : Tr E D l pl n0 n e0 h0 i s) {o : AOper} {p : DP}
    (ho : l[i]? = some o) (hp : pl[i]? = some p) (v : V) (b : Blk) (hw : wantedA (restr p.looks s.e) o.guard = some true) (hc : o.op.cls = .a) (ha : aopA o.op (restr p.looks s.e) (n0 + i) = some (v, b)) :
    Nonempty (Tr E D l pl n0 n e0 h0 (i + 1) { s with e := putE s.e o.dst v, ss := s.ss.map ((n0 + i, b) :: ·), am := s.am ||| 2 ^ i }) := by
  obtain ⟨vals, envs, Hh, nx, ks, M, ssl, ssg, ksl, ksg, ke, ez, es, nx0, nxs, hz, ops, amlt, kst, kinc⟩ := T
  have hin : i < n := by
    rcases Nat.lt_or_ge i l.length with h | h
    · have := F.llen; omega
    · rw [List.getElem?_eq_none h] at ho; cases ho
  have hne : ∀ r, r < M → ks r ≠ i := fun r hr => by have := (kst r hr).1; omega
  have hval : ∀ k, k < i → ins vals i v k = vals k := fun k hk => ins_ne _ _ (by omega)
  have henv : ∀ k, k < i + 1 → ins envs (i + 1) (putE s.e o.dst v) k = envs k := fun k hk => ins_ne _ _ (by omega)
  have hlk : ∀ m k, k ≠ i → look ((n0 + i, b) :: Hh m) (n0 + k) = look (Hh m) (n0 + k) := fun m k hk => by
    simp only [look, Nat.beq_eq]
    rw [if_neg (by omega)]
  have ham : ∀ k, k ≠ i → (s.am ||| 2 ^ i).testBit k = s.am.testBit k := fun k hk => by
    rw [testBit_or_pow]; simp [Ne.symm hk]
  refine ⟨{ vals := ins vals i v, envs := ins envs (i + 1) (putE s.e o.dst v), Hh := fun m => (n0 + i, b) :: Hh m, nx := nx, ks := ks, M := M,
            ssl := by simp [ssl], ssg := fun m hm => by rw [List.getElem?_map, ssg m hm]; rfl
            ksl := ksl, ksg := ksg, ke := (ins_same _ _ _).symm, ez := by rw [henv 0 (by omega)]; exact ez, es := ?_, nx0 := nx0, nxs := nxs, hz := ?_, ops := ?_, amlt := ?_, kst := ?_, kinc := kinc }⟩
  · intro k hk o' ho'
    by_cases he : k = i
    · subst he
      rw [ho] at ho'; cases ho'
      rw [ins_same, ins_same, henv k (by omega), ke]
    · rw [henv k (by omega), hval k (by omega), henv (k + 1) (by omega)]
      exact es k (by omega) o' ho'
  · intro id hid
    simp only [look, Nat.beq_eq]
    rw [if_neg (by omega)]
    exact hz id hid
  · intro k hk o' p' ho' hp'
    by_cases he : k = i
    · subst he
      rw [ho] at ho'; cases ho'
      rw [hp] at hp'; cases hp'
      rw [henv k (by omega), ← ke, ins_same]
      refine .inr ⟨hw, .inr (.inr (.inl ⟨hc, by rw [testBit_or_pow]; simp, hne, b, ha, fun m _ _ => by simp [look]⟩))⟩
    · rw [henv k (by omega), hval k (by omega)]
      simp only [ham k he]
      rcases ops k (by omega) o' p' ho' hp' with h1 | ⟨h1, h2 | h2 | ⟨h2, h3, h4, b', h5, h6⟩ | h2⟩
      · exact .inl h1
      · exact .inr ⟨h1, .inl h2⟩
      · exact .inr ⟨h1, .inr (.inl h2)⟩
      · exact .inr ⟨h1, .inr (.inr (.inl ⟨h2, h3, h4, b', h5, fun m hm hr => by rw [hlk m k he]; exact h6 m hm hr⟩))⟩
      · exact .inr ⟨h1, .inr (.inr (.inr h2))⟩
  · intro k hk
    rw [testBit_or_pow] at hk
    simp only [Bool.or_eq_true, decide_eq_true_eq] at hk
    rcases hk with hk | hk
    · have := amlt k hk; omega
    · omega
  · intro r hr
    obtain ⟨h1, o', p', σ', h2, h3, h4, h5, h6, h7, h8⟩ := kst r hr
    have hanc : p'.anc.testBit i = false := by
      cases hb : p'.anc.testBit i with
      | false => rfl
      | true => have := F.ancLt _ p' h3 i (by omega) hb; omega
    have hcong : ∀ k, k < n → visK p'.anc (s.am ||| 2 ^ i) k = visK p'.anc s.am k := fun k _ => by
      unfold visK
      by_cases he : k = i
      · subst he; rw [hanc]; simp
      · rw [ham k he]
    have hvi : visK p'.anc (s.am ||| 2 ^ i) (n0 + i - n0) = false := by
      rw [show n0 + i - n0 = i by omega]; unfold visK; rw [hanc]; rfl
    have hhide : hideB n0 n (visK p'.anc (s.am ||| 2 ^ i)) ((n0 + i, b) :: Hh r) = hideB n0 n (visK p'.anc s.am) (Hh r) := by
      rw [hideB, if_pos (hid_iff.2 ⟨by omega, by omega, hvi⟩)]
      exact hideB_congr hcong _
    have hkeep : keepB n0 n (visK p'.anc (s.am ||| 2 ^ i)) ((n0 + i, b) :: Hh r) = (n0 + i, b) :: keepB n0 n (visK p'.anc s.am) (Hh r) := by
      rw [keepB, if_pos (hid_iff.2 ⟨by omega, by omega, hvi⟩)]
      rw [keepB_congr hcong]
    refine ⟨by omega, o', p', σ', h2, h3, h4, ?_, ?_, ?_, h8⟩
    · rw [henv _ (by omega)]; exact h5
    · rw [henv _ (by omega), hval _ h1, hhide]; exact h6
    · rw [hkeep, h7]; rfl

/-- An operation that writes. -/
theorem Tr.writes {ops' : Array Oper} {l : List AOper} {pl : List DP} (F : PlanF ops' l pl) {n0 n : Nat} (hn : n = ops'.size) {e0 : Env} {h0 : List (Nat × Blk)} {i : Nat} {s : DS} (T : Tr E D l pl n0 n e0 h0 i s) {o : AOper} {p : DP}
    (ho : l[i]? = some o) (hp : pl[i]? = some p) (v : V) (σ' : H) {h : List (Nat × Blk)} {ss' : List (List (Nat × Blk))} (hss : s.ss = h :: ss') (hw : wantedA (restr p.looks s.e) o.guard = some true) (hc : o.op.cls = .k)
    (hd : den1 E D o.op (restr p.looks s.e) ⟨s.nx, hideB n0 n (visK p.anc s.am) h⟩ = some (v, σ')) :
    Nonempty (Tr E D l pl n0 n e0 h0 (i + 1) { s with e := putE s.e o.dst v, nx := σ'.next, ss := (keepB n0 n (visK p.anc s.am) h ++ σ'.bl) :: s.ss, ks := i :: s.ks }) := by
  obtain ⟨vals, envs, Hh, nx, ks, M, ssl, ssg, ksl, ksg, ke, ez, es, nx0, nxs, hz, ops, amlt, kst, kinc⟩ := T
  have hin : i < n := by
    rcases Nat.lt_or_ge i l.length with h | h
    · have := F.llen; omega
    · rw [List.getElem?_eq_none h] at ho; cases ho
  have hne : ∀ r, r < M → ks r ≠ i := fun r hr => by have := (kst r hr).1; omega
  have hhead : h = Hh M := by
    have := ssg M (Nat.le_refl _)
    rw [Nat.sub_self, hss] at this
    simpa using this
  have ham : s.am.testBit i = false := by
    cases hb : s.am.testBit i with
    | false => rfl
    | true => have := amlt i hb; omega
  have hval : ∀ k, k < i → ins vals i v k = vals k := fun k hk => ins_ne _ _ (by omega)
  have henv : ∀ k, k < i + 1 → ins envs (i + 1) (putE s.e o.dst v) k = envs k := fun k hk => ins_ne _ _ (by omega)
  have hH : ∀ m, m ≤ M → ins Hh (M + 1) (keepB n0 n (visK p.anc s.am) h ++ σ'.bl) m = Hh m := fun m hm => ins_ne _ _ (by omega)
  have hnx : ∀ m, m ≤ M → ins nx (M + 1) σ'.next m = nx m := fun m hm => ins_ne _ _ (by omega)
  have hks : ∀ r, r < M → ins ks M i r = ks r := fun r hr => ins_ne _ _ (by omega)
  refine ⟨{ vals := ins vals i v, envs := ins envs (i + 1) (putE s.e o.dst v), Hh := ins Hh (M + 1) (keepB n0 n (visK p.anc s.am) h ++ σ'.bl), nx := ins nx (M + 1) σ'.next, ks := ins ks M i, M := M + 1,
            ssl := by simp [ssl], ssg := ?_, ksl := by simp [ksl], ksg := ?_, ke := (ins_same _ _ _).symm, ez := by rw [henv 0 (by omega)]; exact ez, es := ?_, nx0 := by rw [hnx 0 (by omega)]; exact nx0,
            nxs := (ins_same _ _ _).symm, hz := fun id hid => by rw [hH 0 (by omega)]; exact hz id hid, ops := ?_, amlt := fun k hk => Nat.lt_succ_of_lt (amlt k hk), kst := ?_, kinc := ?_ }⟩
  · intro m hm
    by_cases he : m = M + 1
    · subst he; rw [Nat.sub_self, ins_same]; rfl
    · rw [hH m (by omega), show M + 1 - m = (M - m) + 1 by omega, List.getElem?_cons_succ]
      exact ssg m (by omega)
  · intro r hr
    by_cases he : r = M
    · subst he; rw [ins_same, show r + 1 - 1 - r = 0 by omega]; rfl
    · rw [hks r (by omega), show M + 1 - 1 - r = (M - 1 - r) + 1 by omega, List.getElem?_cons_succ]
      exact ksg r (by omega)
  · intro k hk o' ho'
    by_cases he : k = i
    · subst he
      rw [ho] at ho'; cases ho'
      rw [ins_same, ins_same, henv k (by omega), ke]
    · rw [henv k (by omega), hval k (by omega), henv (k + 1) (by omega)]
      exact es k (by omega) o' ho'
  · intro k hk o' p' ho' hp'
    by_cases he : k = i
    · subst he
      rw [ho] at ho'; cases ho'
      rw [hp] at hp'; cases hp'
      rw [henv k (by omega), ← ke, ins_same]
      exact .inr ⟨hw, .inr (.inr (.inr ⟨hc, ham, M, by omega, ins_same _ _ _⟩))⟩
    · rw [henv k (by omega), hval k (by omega)]
      have hnk : (∀ r, r < M → ks r ≠ k) → ∀ r, r < M + 1 → ins ks M i r ≠ k := fun hh r hr => by
        by_cases hrm : r = M
        · subst hrm; rw [ins_same]; omega
        · rw [hks r (by omega)]; exact hh r (by omega)
      rcases ops k (by omega) o' p' ho' hp' with ⟨h1, h2, h3, h4⟩ | ⟨h1, ⟨h2, h3, h4, h5⟩ | ⟨h2, h3, h4, h5⟩ | ⟨h2, h3, h4, b', h5, h6⟩ | ⟨h2, h3, r, h4, h5⟩⟩
      · exact .inl ⟨h1, h2, h3, hnk h4⟩
      · exact .inr ⟨h1, .inl ⟨h2, h3, h4, hnk h5⟩⟩
      · exact .inr ⟨h1, .inr (.inl ⟨h2, h3, h4, hnk h5⟩)⟩
      · refine .inr ⟨h1, .inr (.inr (.inl ⟨h2, h3, hnk h4, b', h5, fun m hm hr => ?_⟩))⟩
        by_cases hmm : m = M + 1
        · subst hmm
          rw [ins_same, look_append, look_keepB, hhead]
          have hanc : p.anc.testBit k = false := by
            have := hr M (by omega)
            rw [ins_same, ancOf_eq hp] at this
            exact this
          have hv : visK p.anc s.am (n0 + k - n0) = false := by
            rw [show n0 + k - n0 = k by omega]; unfold visK; rw [hanc]; rfl
          rw [if_pos ⟨by omega, by omega, hv⟩]
          have := h6 M (Nat.le_refl _) (fun r hrM => by have := hr r (by omega); rw [hks r hrM] at this; exact this)
          rw [this]
        · rw [hH m (by omega)]
          exact h6 m (by omega) (fun r hrm => by have := hr r hrm; rw [hks r (by omega)] at this; exact this)
      · exact .inr ⟨h1, .inr (.inr (.inr ⟨h2, h3, r, by omega, by rw [hks r h4]; exact h5⟩))⟩
  · intro r hr
    by_cases he : r = M
    · subst he
      rw [ins_same]
      refine ⟨by omega, o, p, σ', ho, hp, hc, ?_, ?_, ?_, ?_⟩
      · rw [henv i (by omega), ← ke]; exact hw
      · rw [henv i (by omega), ← ke, ins_same, hnx r (by omega), hH r (by omega), ← hhead, ← nxs]; exact hd
      · rw [ins_same, hH r (by omega), hhead]
      · rw [ins_same]
    · obtain ⟨h1, o', p', σ2, h2, h3, h4, h5, h6, h7, h8⟩ := kst r (by omega)
      rw [hks r (by omega)]
      refine ⟨by omega, o', p', σ2, h2, h3, h4, ?_, ?_, ?_, ?_⟩
      · rw [henv _ (by omega)]; exact h5
      · rw [henv _ (by omega), hval _ h1, hnx r (by omega), hH r (by omega)]; exact h6
      · rw [hH (r + 1) (by omega), hH r (by omega)]; exact h7
      · rw [hnx (r + 1) (by omega)]; exact h8
  · intro r r' hrr hr'
    by_cases he : r' = M
    · subst he
      rw [ins_same, hks r (by omega)]
      exact (kst r (by omega)).1
    · rw [hks r' (by omega), hks r (by omega)]
      exact kinc r r' hrr (by omega)

theorem dsteps_tr {ops' : Array Oper} {l : List AOper} {pl : List DP} (F : PlanF ops' l pl) {n0 n : Nat} (hn : n = ops'.size) {e0 : Env} {h0 : List (Nat × Blk)} :
    ∀ (rest : List AOper) (prest : List DP) (i : Nat) (s s' : DS), l.drop i = rest → pl.drop i = prest → Nonempty (Tr E D l pl n0 n e0 h0 i s) → dsteps E D n0 n i rest prest s = some s' →
      Nonempty (Tr E D l pl n0 n e0 h0 (i + rest.length) s')
  | [], prest, i, s, s', hl, hp, hT, h => by
    cases prest <;> (simp only [dsteps, Option.some.injEq] at h; subst h; exact hT)
  | o :: rest, [], i, s, s', hl, hp, hT, h => by simp only [dsteps] at h; cases h
  | o :: rest, p :: prest, i, s, s', hl, hp, hT, h => by
    have ho : l[i]? = some o := by
      have := congrArg (·[0]?) hl
      simpa [List.getElem?_drop] using this
    have hpp : pl[i]? = some p := by
      have := congrArg (·[0]?) hp
      simpa [List.getElem?_drop] using this
    have hl' : l.drop (i + 1) = rest := by rw [← List.drop_drop, hl]; rfl
    have hp' : pl.drop (i + 1) = prest := by rw [← List.drop_drop, hp]; rfl
    simp only [dsteps] at h
    cases hs : dstep E D n0 n i o p s with
    | none => rw [hs] at h; cases h
    | some s1 =>
      rw [hs] at h
      obtain ⟨T⟩ := hT
      have hT1 : Nonempty (Tr E D l pl n0 n e0 h0 (i + 1) s1) := by
        unfold dstep at hs
        split at hs
        · cases hs
        · rename_i hw; cases hs
          exact T.quiet ho hpp undefV s.ls (fun _ h => h) (.inl ⟨hw, rfl⟩)
        · rename_i hw
          split at hs
          · rename_i hc
            split at hs
            · cases hs
            · rename_i v hv; cases hs
              exact T.quiet ho hpp v s.ls (fun _ h => h) (.inr ⟨hw, .inl ⟨hc, hv⟩⟩)
          · rename_i hc
            split at hs
            · cases hs
            · split at hs
              · cases hs
              · rename_i v hv; cases hs
                exact T.quiet ho hpp v _ (fun _ h => List.mem_cons_of_mem _ h) (.inr ⟨hw, .inr ⟨hc, List.mem_cons_self⟩⟩)
          · rename_i hc
            split at hs
            · cases hs
            · rename_i v b hv; cases hs
              exact T.make F hn ho hpp v b hw hc hv
          · rename_i hc
            split at hs
            · cases hs
            · rename_i hh hss
              split at hs
              · cases hs
              · rename_i v σ' hv; cases hs
                exact T.writes F hn ho hpp v σ' hss hw hc hv
      have := dsteps_tr F hn rest prest (i + 1) s1 s' hl' hp' hT1 h
      rwa [show i + (o :: rest).length = i + 1 + rest.length by simp; omega]
end Go.Og

set_option linter.unusedSimpArgs false
namespace Go.Og
variable {P : Program} {G : Nat → Bool} {E : List (Nat × Blk)} {D : Den} {C : Cx}

theorem checkL_ok {n0 n : Nat} {pl : List DP} {am j : Nat} {op : AOp} {em : Env} {v : V} : ∀ (ss : List (List (Nat × Blk))) (ks more : List Nat), checkL E n0 n pl am j op em v ss ks more = true → ss.length = ks.length + 1 →
    ∀ (q : Nat) (h : List (Nat × Blk)), ss[q]? = some h → legal pl j (ks.drop q) ((ks.take q).reverse ++ more) = true → aopL E op em ⟨0, hideB n0 n (visK (ancOf pl j) am) h⟩ = some v
  | [], ks, more, _, hl, q, h, hq, _ => by simp at hq
  | h' :: ss, ks, more, hc, hl, 0, h, hq, hleg => by
    simp only [List.getElem?_cons_zero, Option.some.injEq] at hq
    subst hq
    simp only [List.drop_zero, List.take_zero, List.reverse_nil, List.nil_append] at hleg
    simp only [checkL, hleg, Bool.not_true, Bool.false_or, Bool.and_eq_true] at hc
    have := hc.1
    unfold ancOf
    split at this
    · rename_i u hu
      rw [hu, beq_ok _ _ this]
    · cases this
  | h' :: ss, [], more, hc, hl, q + 1, h, hq, hleg => by
    simp at hl
    subst hl
    simp at hq
  | h' :: ss, k :: ks, more, hc, hl, q + 1, h, hq, hleg => by
    simp only [checkL, Bool.and_eq_true] at hc
    refine checkL_ok ss ks (k :: more) hc.2 (by simpa using hl) q h (by simpa using hq) ?_
    simp only [List.drop_succ_cons, List.take_succ_cons, List.reverse_cons, List.append_assoc, List.singleton_append] at hleg
    exact hleg

theorem getD_true_iff {listed : Array Bool} {k n : Nat} (hs : listed.size = n) (hk : k < n) : listed.getD k true = listed.getD k false := by
  have h : k < listed.size := by omega
  simp [Array.getD, h]

theorem set_getD {listed : Array Bool} {i k : Nat} (hi : i < listed.size) : (listed.setIfInBounds i true).getD k false = (decide (k = i) || listed.getD k false) := by
  simp only [Array.getD_eq_getD_getElem?, Array.getElem?_setIfInBounds]
  by_cases h : i = k
  · subst h; simp [hi]
  · rw [if_neg h]; simp [Ne.symm h]

theorem cnt_lt {p q : Nat → Bool} (h : ∀ k, p k = true → q k = true) {i : Nat} (hq : q i = true) (hp : p i = false) : ∀ (l : List Nat), i ∈ l → l.countP p < l.countP q
  | [], hm => by cases hm
  | x :: l, hm => by
    have hmono : ∀ l : List Nat, l.countP p ≤ l.countP q := fun l => List.countP_mono_left fun x _ hx => h x hx
    rcases List.mem_cons.1 hm with rfl | hm
    · rw [List.countP_cons_of_pos hq, List.countP_cons_of_neg (by simp [hp])]
      have := hmono l; omega
    · have ih := cnt_lt h hq hp l hm
      by_cases hx : p x = true
      · rw [List.countP_cons_of_pos hx, List.countP_cons_of_pos (h x hx)]; omega
      · rw [List.countP_cons_of_neg hx]
        by_cases hqx : q x = true
        · rw [List.countP_cons_of_pos hqx]; omega
        · rw [List.countP_cons_of_neg hqx]; exact ih

set_option maxHeartbeats 1000000 in
theorem drawW_ok (hD : ∀ f, SoundFn P E G f (D f)) (hmix : P.follows .mixedOrders = true) : SoundW P E G (drawW E D) := by
  intro C hE hG nt id ops e0 σ0 e' σ' hplan hW R0 a0 w00 Q hrel0 he0 hnt0 hd0 hQ
  subst hE hG
  generalize hl : ops.toList.map (compOper P C.G nt ops) = l at hplan hW
  generalize hpl : planOf ops = pl at hplan hW
  have hlen : l.length = ops.size := by rw [← hl]; simp
  have F := planOk_ok hlen hplan
  unfold drawW at hW
  have hn : l.length = ops.size := hlen
  generalize hnn : l.length = n at hW
  have hnops : n = ops.size := by omega
  cases hds : dsteps C.E D σ0.next n 0 l pl ⟨e0, σ0.next + n, [σ0.bl], [], 0, []⟩ with
  | none => rw [hds] at hW; cases hW
  | some s =>
    rw [hds] at hW
    simp only at hW
    split at hW
    case isFalse => cases hW
    rename_i hchk
    obtain ⟨T⟩ := dsteps_tr F hnops l pl 0 _ s rfl rfl (Tr.start C.E D l pl σ0.next n e0 σ0.bl) hds
    rw [Nat.zero_add, hnn] at T
    obtain ⟨vals, envs, Hh, nx, ks, M, ssl, ssg, ksl, ksg, ke, ez, es, nx0, nxs, hz, hops, amlt, kst, kinc⟩ := T
    -- the answer
    have hans : e' = envs n ∧ σ' = ⟨nx M, hideB σ0.next n (fun k => s.am.testBit k) (Hh M)⟩ := by
      have hh := ssg M (Nat.le_refl _)
      rw [Nat.sub_self] at hh
      split at hW
      · rename_i h ss' hss
        rw [hss] at hh
        simp only [List.getElem?_cons_zero, Option.some.injEq] at hh
        cases hW
        exact ⟨ke, by rw [nxs, hh]⟩
      · cases hW
    obtain ⟨rfl, rfl⟩ := hans
    clear hW hds
    -- what each operation is
    have some3 : ∀ i, i < n → ∃ o p, ops[i]? = some o ∧ l[i]? = some (compOper P C.G nt ops o) ∧ pl[i]? = some p := fun i hi => by
      have h1 : i < ops.size := by omega
      refine ⟨ops[i], pl[i]'(by have := F.len; omega), Array.getElem?_eq_getElem h1, ?_, List.getElem?_eq_getElem _⟩
      rw [← hl, List.getElem?_map, Array.getElem?_toList, Array.getElem?_eq_getElem h1]; rfl
    have hdlt : ∀ (i : Nat) (o : Oper) (t : Nat), i < n → ops[i]? = some o → o.dst = some t → t < nt := by
      intro i o t hin ho ht
      obtain ⟨o2, p, ho2, hlo, hp⟩ := some3 i hin
      rw [ho] at ho2; cases ho2
      cases hdo : dstOk nt o.dst with
      | true => rw [ht] at hdo; simpa [dstOk] using hdo
      | false =>
        exfalso
        have hco : compOper P C.G nt ops o = ⟨o.dst, .bad, none⟩ := by
          unfold compOper
          rw [hdo]
          split
          · rename_i h; cases h
          · rfl
        have := hops i hin _ p hlo hp
        rw [hco] at this
        simp [wantedA, AOp.cls, aopP] at this
    -- the loads, behind whatever they may stand
    have hload : ∀ j op em v, (j, op, em, v) ∈ s.ls → ∀ m, m ≤ M → (∀ r, m ≤ r → r < M → (ancOf pl j).testBit (ks r) = false) → (∀ r, r < m → (ancOf pl (ks r)).testBit j = false) →
        aopL C.E op em ⟨0, hideB σ0.next n (visK (ancOf pl j) s.am) (Hh m)⟩ = some v := by
      intro j op em v hmem m hm h1 h2
      have hc := List.all_eq_true.1 hchk _ hmem
      refine checkL_ok s.ss s.ks [] hc (by omega) (M - m) (Hh m) (ssg m hm) ?_
      unfold legal
      simp only [List.append_nil, Bool.and_eq_true, List.all_eq_true, Bool.not_eq_true', List.mem_reverse]
      constructor
      · intro x hx
        obtain ⟨q, hq⟩ := List.mem_iff_getElem?.1 hx
        rw [List.getElem?_take] at hq
        split at hq
        · rename_i hqm
          have := ksg (M - 1 - q) (by omega)
          rw [show M - 1 - (M - 1 - q) = q by omega, hq] at this
          cases this
          exact h1 _ (by omega) (by omega)
        · cases hq
      · intro x hx
        obtain ⟨q, hq⟩ := List.mem_iff_getElem?.1 hx
        rw [List.getElem?_drop] at hq
        have hql : M - m + q < s.ks.length := by
          rcases Nat.lt_or_ge (M - m + q) s.ks.length with h | h
          · exact h
          · rw [List.getElem?_eq_none h] at hq; cases hq
        have := ksg (M - 1 - (M - m + q)) (by omega)
        rw [show M - 1 - (M - 1 - (M - m + q)) = M - m + q by omega, hq] at this
        cases this
        exact h2 _ (by omega)
    -- the invariant
    let Lf : Array Bool → Nat → Bool := fun listed k => listed.getD k false
    let vis : Array Bool → Nat → Bool := fun listed k => listed.getD k false && s.am.testBit k
    let Inv : Array Bool → Act → World → Prop := fun listed a w =>
      listed.size = n ∧ (∀ i o, listed.getD i false = true → ops[i]? = some o → ∀ ed ∈ o.after, Region.binds .any ed = true → listed.getD ed.on false = true) ∧ a.defers = [] ∧
      ∃ R m, m ≤ M ∧ (∀ r, r < M → (listed.getD (ks r) false = true ↔ r < m)) ∧ Ext σ0.next R0 R ∧ σ0.next + n ≤ nx m ∧ Rel C R ⟨nx m, hideB σ0.next n (vis listed) (Hh m)⟩ w ∧
        (∀ k, k < n → listed.getD k false = false → R (σ0.next + k) = none) ∧ nt ≤ a.tmps.size ∧
        (∀ i o t, listed.getD i false = true → ops[i]? = some o → o.dst = some t → t < a.tmps.size → vals i = .dead ∨ ∃ x, a.tmps[t]? = some x ∧ conc R (vals i) = some x) ∧
        (∀ t v, look e0 t = some v → (∀ i o, listed.getD i false = true → ops[i]? = some o → o.dst ≠ some t) → v = .dead ∨ ∃ x, a.tmps[t]? = some x ∧ conc R v = some x)
    -- whatever comes before an operation that is ready, or listed, is listed
    have hanc : ∀ (listed : Array Bool), (∀ i o, listed.getD i false = true → ops[i]? = some o → ∀ ed ∈ o.after, Region.binds .any ed = true → listed.getD ed.on false = true) →
        ∀ (i : Nat) (o : Oper) (p : DP), ops[i]? = some o → pl[i]? = some p → (∀ ed ∈ o.after, Region.binds .any ed = true → listed.getD ed.on false = true) → ∀ (k : Nat), k < n → p.anc.testBit k = true → listed.getD k false = true := by
      intro listed hcl i
      induction i using Nat.strongRecOn with
      | _ i ih =>
        intro o p ho hp hed k hk hb
        obtain ⟨ed, hem, hbe, hr⟩ := F.anc i o p ho hp k (by omega) hb
        have hlt := F.edges i o ho ed hem hbe
        have hli := hed ed hem hbe
        rcases hr with rfl | hr
        · exact hli
        · have hin : i < n := by
            rcases Nat.lt_or_ge i ops.size with h | h
            · omega
            · rw [Array.getElem?_eq_none h] at ho; cases ho
          obtain ⟨o2, p2, h1, _, h3⟩ := some3 ed.on (by omega)
          exact ih ed.on hlt o2 p2 h1 h3 (fun ed2 hm2 hb2 => hcl ed.on o2 hli h1 ed2 hm2 hb2) k hk (by rw [← ancOf_eq h3]; exact hr)
    have hready_nil : ∀ listed : Array Bool, listed.size = n → Region.ready .any ops listed = [] → ∀ k, k < n → listed.getD k false = true := by
      intro listed hsz hr k
      induction k using Nat.strongRecOn with
      | _ k ih =>
        intro hk
        cases hb : listed.getD k false with
        | true => rfl
        | false =>
          exfalso
          obtain ⟨o, p, h1, _, _⟩ := some3 k hk
          have : k ∈ Region.ready .any ops listed := mem_ready.2 ⟨by rw [getD_true_iff hsz hk]; exact hb, o, h1, fun ed hm hbd => ih ed.on (F.edges k o h1 ed hm hbd) (by have := F.edges k o h1 ed hm hbd; omega)⟩
          rw [hr] at this; cases this
    -- the temporaries that an operation looks at
    have henv : ∀ (listed : Array Bool) (a : Act) (R : Ren),
        (∀ i o, listed.getD i false = true → ops[i]? = some o → ∀ ed ∈ o.after, Region.binds .any ed = true → listed.getD ed.on false = true) →
        nt ≤ a.tmps.size →
        (∀ i o t, listed.getD i false = true → ops[i]? = some o → o.dst = some t → t < a.tmps.size → vals i = .dead ∨ ∃ x, a.tmps[t]? = some x ∧ conc R (vals i) = some x) →
        (∀ t v, look e0 t = some v → (∀ i o, listed.getD i false = true → ops[i]? = some o → o.dst ≠ some t) → v = .dead ∨ ∃ x, a.tmps[t]? = some x ∧ conc R v = some x) →
        ∀ (j : Nat) (o : Oper) (p : DP), j ≤ n → (j = n → ∀ k, k < n → listed.getD k false = true) →
          (j < n → ops[j]? = some o ∧ pl[j]? = some p ∧ listed.getD j false = false ∧ (∀ ed ∈ o.after, Region.binds .any ed = true → listed.getD ed.on false = true)) →
          ∀ (t : Nat) (v : V), look (envs j) t = some v → (j < n → memN p.looks t = true) → v = .dead ∨ ∃ x, a.tmps[t]? = some x ∧ conc R v = some x := by
      intro listed a R hcl hsz hw hu j o p hj hall hrd
      -- the environment of the text's order
      have hshape : ∀ j, j ≤ n → ∀ t v, look (envs j) t = some v →
          (∃ k o', k < j ∧ ops[k]? = some o' ∧ o'.dst = some t ∧ v = vals k) ∨ (look e0 t = some v ∧ ∀ k o', k < j → ops[k]? = some o' → o'.dst ≠ some t) := by
        intro j
        induction j with
        | zero => intro _; rw [ez]; exact fun t v hv => .inr ⟨hv, fun k o' hk => by omega⟩
        | succ j ih =>
          intro hj
          have h2 := ih (by omega)
          obtain ⟨oj, pj, ho1, hl1, _⟩ := some3 j (by omega)
          have hes := es j (by omega) _ hl1
          have hdst : (compOper P C.G nt ops oj).dst = oj.dst := by unfold compOper; split <;> rfl
          rw [hdst] at hes
          rw [hes]
          intro t v hv
          cases hd : oj.dst with
          | none =>
            rw [hd] at hv
            simp only [putE] at hv
            rcases h2 t v hv with ⟨k, o', hk, hk2, hk3, hk4⟩ | ⟨hk, hk2⟩
            · exact .inl ⟨k, o', by omega, hk2, hk3, hk4⟩
            · refine .inr ⟨hk, fun k o' hkj hko => ?_⟩
              by_cases he : k = j
              · subst he; rw [ho1] at hko; cases hko; rw [hd]; simp
              · exact hk2 k o' (by omega) hko
          | some d =>
            rw [hd] at hv
            simp only [putE, look] at hv
            by_cases hdt : d = t
            · subst hdt
              rw [if_pos (by simp)] at hv
              cases hv
              exact .inl ⟨j, oj, by omega, ho1, hd, rfl⟩
            · rw [if_neg (by simpa using hdt)] at hv
              rcases h2 t v hv with ⟨k, o', hk, hk2, hk3, hk4⟩ | ⟨hk, hk2⟩
              · exact .inl ⟨k, o', by omega, hk2, hk3, hk4⟩
              · refine .inr ⟨hk, fun k o' hkj hko => ?_⟩
                by_cases he : k = j
                · subst he; rw [ho1] at hko; cases hko; rw [hd]; simpa using hdt
                · exact hk2 k o' (by omega) hko
      have hsh := hshape j hj
      intro t v hv hlook
      rcases hsh t v hv with ⟨k, ok, hk, hk2, hk3, rfl⟩ | ⟨hk, hk2⟩
      · -- written before, in the text's order: it has been written
        refine hw k ok t ?_ hk2 hk3 (Nat.lt_of_lt_of_le (hdlt k ok t (by omega) hk2 hk3) hsz)
        by_cases hjn : j < n
        · obtain ⟨ho, hp, _, hed⟩ := hrd hjn
          obtain ⟨o3, p3, h1, _, h3⟩ := some3 k (by omega)
          rw [hk2] at h1; cases h1
          have hd := (F.dsts k j ok o p3 p (by omega) hk2 ho h3 hp t hk3).2 (hlook hjn)
          rcases hd with hd | hd
          · exact hanc listed hcl j o p ho hp hed k (by omega) hd
          · have := F.ancLt k p3 h3 j (by omega) hd; omega
        · exact hall (by omega) k (by omega)
      · -- not written before: it has not been written
        refine hu t v hk (fun i oi hli hoi hdst => ?_)
        have hin : i < n := by
          rcases Nat.lt_or_ge i ops.size with h | h
          · omega
          · rw [Array.getElem?_eq_none h] at hoi; cases hoi
        by_cases hij : i < j
        · exact hk2 i oi hij hoi hdst
        · have hjn : j < n := by omega
          obtain ⟨ho, hp, hnl, _⟩ := hrd hjn
          by_cases hie : i = j
          · subst hie; rw [hnl] at hli; cases hli
          · obtain ⟨o3, p3, h1, _, h3⟩ := some3 i hin
            rw [hoi] at h1; cases h1
            have hd := (F.dsts i j oi o p3 p hie hoi ho h3 hp t hdst).2 (hlook hjn)
            rcases hd with hd | hd
            · have := F.ancLt j p hp i (by omega) hd; omega
            · have := hanc listed hcl i oi p3 hoi h3 (fun ed hm hb => hcl i oi hli hoi ed hm hb) j hjn hd
              rw [hnl] at this; cases this
    have hput : ∀ (a : Act) (d : Option Nat) (x : Value) (t : Nat), d ≠ some t → (a.put d x).tmps[t]? = a.tmps[t]? := by
      intro a d x t hne
      cases d with
      | none => rfl
      | some d =>
        simp only [Act.put, Array.getElem?_setIfInBounds]
        rw [if_neg (fun h => hne (by rw [h]))]
    have hputsz : ∀ (a : Act) (d : Option Nat) (x : Value), (a.put d x).tmps.size = a.tmps.size := by
      intro a d x; cases d <;> simp [Act.put]
    -- the end
    have hfin : ∀ listed a w, Inv listed a w → (∀ k, k < n → listed.getD k false = true) → Q .normal a w := by
      intro listed a w hI hall
      obtain ⟨hsz, hcl, hd, R, m, hm, hpre, hx, hnxm, hrel, hres, htsz, hwc, huc⟩ := hI
      have hmM : m = M := by
        rcases Nat.lt_or_ge m M with h | h
        · have := (hpre m h).1 (hall _ (by have := (kst m h).1; omega)); omega
        · omega
      subst hmM
      refine hQ R a w hx (by show σ0.next ≤ nx m; omega) ?_ ?_ htsz hd
      · refine hrel.congr (fun id hid => hrel.fresh id hid) (fun k b hk => ?_)
        rw [look_hideB] at hk ⊢
        by_cases hc : σ0.next ≤ k ∧ k < σ0.next + n ∧ s.am.testBit (k - σ0.next) = false
        · rw [if_pos hc] at hk; cases hk
        · rw [if_neg hc] at hk
          rw [if_neg (fun h => hc ⟨h.1, h.2.1, by have := h.2.2; simp only [vis, hall (k - σ0.next) (by omega), Bool.true_and] at this; exact this⟩)]
          exact hk
      · refine ⟨fun t v hv => ?_⟩
        exact henv listed a R hcl htsz hwc huc n default default (Nat.le_refl _) (fun _ => hall) (fun h => by omega) t v hv (fun h => by omega)
    -- a step
    have hstep : ∀ listed a w, Inv listed a w → ∀ i, i ∈ Region.ready .any ops listed → ∀ K : Act → World → Prop, (∀ a' w', Inv (listed.setIfInBounds i true) a' w' → K a' w') → wpOp P ops Q i K a w := by
      intro listed a w hI i hi K hK
      obtain ⟨hsz, hcl, hd, R, m, hm, hpre, hx, hnxm, hrel, hres, htsz, hwc, huc⟩ := hI
      obtain ⟨hli, o, ho, hed⟩ := mem_ready.1 hi
      have hin : i < n := by
        rcases Nat.lt_or_ge i ops.size with h | h
        · omega
        · rw [Array.getElem?_eq_none h] at ho; cases ho
      have hnl : listed.getD i false = false := by rw [← getD_true_iff hsz hin]; exact hli
      obtain ⟨o2, p, ho2, hlo, hp⟩ := some3 i hin
      rw [ho] at ho2; cases ho2
      have hsz' : i < listed.size := by omega
      have hLs : ∀ k, (listed.setIfInBounds i true).getD k false = (decide (k = i) || listed.getD k false) := fun k => set_getD hsz'
      have hancl : ∀ k, k < n → p.anc.testBit k = true → listed.getD k false = true := hanc listed hcl i o p ho hp hed
      have hgl := hrel.globOk
      have hle0 : ∀ {R'}, Ext (nx m) R R' → Le R R' := fun h => h.le hrel.fresh
      have hem : EnvOk R (restr p.looks (envs i)) a.tmps := by
        refine ⟨fun t v hv => ?_⟩
        obtain ⟨ht, hmem⟩ := look_restr _ _ _ _ hv
        exact henv listed a R hcl htsz hwc huc i o p (by omega) (fun h => by omega) (fun _ => ⟨ho, hp, hnl, hed⟩) t v ht (fun _ => hmem)
      have mk : ∀ (R' : Ren) (m' : Nat) (w' : World) (x : Value), m' ≤ M → (∀ r, r < M → ((listed.setIfInBounds i true).getD (ks r) false = true ↔ r < m')) → Ext σ0.next R0 R' → σ0.next + n ≤ nx m' →
          Rel C R' ⟨nx m', hideB σ0.next n (vis (listed.setIfInBounds i true)) (Hh m')⟩ w' → (∀ k, k < n → (listed.setIfInBounds i true).getD k false = false → R' (σ0.next + k) = none) → Le R R' →
          (vals i = .dead ∨ conc R' (vals i) = some x) → K (a.put o.dst x) w' := by
        intro R' m' w' x h1 h2 h3 h4 h5 h6 h7 h8
        refine hK _ _ ⟨by rw [Array.size_setIfInBounds]; exact hsz, ?_, by rw [defers_put]; exact hd, R', m', h1, h2, h3, h4, h5, h6, by rw [hputsz]; exact htsz, ?_, ?_⟩
        · intro i' o' hi' ho' ed hm' hb'
          rw [hLs] at hi' ⊢
          simp only [Bool.or_eq_true, decide_eq_true_eq] at hi' ⊢
          rcases hi' with rfl | hi'
          · rw [ho] at ho'; cases ho'
            exact .inr (hed ed hm' hb')
          · exact .inr (hcl i' o' hi' ho' ed hm' hb')
        · intro i' o' t hi' ho' hdt htl
          rw [hputsz] at htl
          rw [hLs] at hi'
          simp only [Bool.or_eq_true, decide_eq_true_eq] at hi'
          by_cases he : i' = i
          · subst he
            rw [ho] at ho'; cases ho'
            rcases h8 with h8 | h8
            · exact .inl h8
            · refine .inr ⟨x, ?_, h8⟩
              rw [hdt]
              simp [Act.put, Array.getElem?_setIfInBounds, htl]
          · have hi'' := hi'.resolve_left he
            have hi'n : i' < n := by
              rcases Nat.lt_or_ge i' ops.size with h | h
              · omega
              · rw [Array.getElem?_eq_none h] at ho'; cases ho'
            obtain ⟨o3, p3, h1', _, h3'⟩ := some3 i' hi'n
            rw [ho'] at h1'; cases h1'
            rw [hput a o.dst x t ((F.dsts i' i o' o p3 p he ho' ho h3' hp t hdt).1)]
            rcases hwc i' o' t hi'' ho' hdt htl with h | ⟨y, hy, hc⟩
            · exact .inl h
            · exact .inr ⟨y, hy, conc_mono h7 _ _ hc⟩
        · intro t v hv hno
          have hot : o.dst ≠ some t := hno i o (by rw [hLs]; simp) ho
          rw [hput a o.dst x t hot]
          rcases huc t v hv (fun i' o' hi' ho' => hno i' o' (by rw [hLs, hi']; simp) ho') with h | ⟨y, hy, hc⟩
          · exact .inl h
          · exact .inr ⟨y, hy, conc_mono h7 _ _ hc⟩
      -- nothing written, nothing made
      have hsame : s.am.testBit i = false → Rel C R ⟨nx m, hideB σ0.next n (vis (listed.setIfInBounds i true)) (Hh m)⟩ w := by
        intro ham
        rw [hideB_congr (q := vis listed) (fun k hk => by
          simp only [vis]
          rw [hLs]
          by_cases he : k = i
          · subst he; simp [ham]
          · simp [he])]
        exact hrel
      have hpre1 : (∀ r, r < M → ks r ≠ i) → ∀ r, r < M → ((listed.setIfInBounds i true).getD (ks r) false = true ↔ r < m) := by
        intro hne r hr
        rw [hLs]
        simp only [hne r hr, decide_false, Bool.false_or]
        exact hpre r hr
      have hres1 : ∀ k, k < n → (listed.setIfInBounds i true).getD k false = false → R (σ0.next + k) = none := by
        intro k hk hkl
        rw [hLs] at hkl
        simp only [Bool.or_eq_false_iff] at hkl
        exact hres k hk hkl.2
      have hkbefore : ∀ r, r < m → (ancOf pl (ks r)).testBit i = false := by
        intro r hr
        cases hb : (ancOf pl (ks r)).testBit i with
        | false => rfl
        | true =>
          exfalso
          obtain ⟨hkn, _⟩ := kst r (by omega)
          obtain ⟨o3, p3, h1', _, h3'⟩ := some3 (ks r) hkn
          have hlr := (hpre r (by omega)).2 hr
          have := hanc listed hcl (ks r) o3 p3 h1' h3' (fun ed hm hb => hcl (ks r) o3 hlr h1' ed hm hb) i hin (by rw [← ancOf_eq h3']; exact hb)
          rw [hnl] at this; cases this
      unfold wpOp
      rw [ho]
      simp only
      have hco : compOper P C.G nt ops o = ⟨o.dst, .bad, none⟩ ∨ ∃ g, compG ops o.guard = some g ∧ compOper P C.G nt ops o = ⟨o.dst, compOp P C.G o.op, g⟩ := by
        unfold compOper
        split
        · rename_i g hg _; exact .inr ⟨g, hg, rfl⟩
        · exact .inl rfl
      rcases hco with hco | ⟨g, hcg, hco⟩
      · exfalso
        have := hops i hin _ p hlo hp
        rw [hco] at this
        simp [wantedA, AOp.cls, aopP] at this
      · have hF := hops i hin _ p hlo hp
        rw [hco] at hF
        simp only at hF
        rcases hF with ⟨hw, hv, ham, hne⟩ | ⟨hw, ⟨hc, hv, ham, hne⟩ | ⟨hc, hmem, ham, hne⟩ | ⟨hc, ham, hne, b, hv, hb⟩ | ⟨hc, ham, r, hr, hkr⟩⟩
        · rw [if_neg (by rw [wanted_ok hem hcg hw]; simp)]
          exact mk R m w undef hm (hpre1 hne) hx hnxm (hsame ham) hres1 (Le.refl _) (.inr (by rw [hv]; rfl))
        · rw [if_pos (wanted_ok hem hcg hw)]
          left
          obtain ⟨x, hxv, hrun⟩ := aopP_ok (a := a) (P := P) hem hgl o hv w
          unfold Oper.wp
          rw [hrun]
          exact mk R m w x hm (hpre1 hne) hx hnxm (hsame ham) hres1 (Le.refl _) (.inr hxv)
        · rw [if_pos (wanted_ok hem hcg hw)]
          left
          have hl1 := hload i _ _ _ hmem m hm (fun r hr1 hr2 => by
            cases hbt : (ancOf pl i).testBit (ks r) with
            | false => rfl
            | true =>
              exfalso
              have := hancl (ks r) (kst r hr2).1 (by rw [← ancOf_eq hp]; exact hbt)
              have := (hpre r hr2).1 this
              omega) hkbefore
          have hl2 := aopL_mono hrel (σs := ⟨0, hideB σ0.next n (visK (ancOf pl i) s.am) (Hh m)⟩) (fun id b hid => by
            simp only at hid ⊢
            rw [look_hideB] at hid ⊢
            by_cases hcnd : σ0.next ≤ id ∧ id < σ0.next + n ∧ visK (ancOf pl i) s.am (id - σ0.next) = false
            · rw [if_pos hcnd] at hid; cases hid
            · rw [if_neg hcnd] at hid
              rw [if_neg (fun hh => hcnd ⟨hh.1, hh.2.1, by
                have h3 := hh.2.2
                unfold visK
                cases hbt : (ancOf pl i).testBit (id - σ0.next) with
                | false => rfl
                | true =>
                  have := hancl (id - σ0.next) (by omega) (by rw [← ancOf_eq hp]; exact hbt)
                  simp only [vis, this, Bool.true_and] at h3
                  rw [h3]; rfl⟩)]
              exact hid) hl1
          obtain ⟨x, hxv, hrun⟩ := aopL_ok (P := P) hrel hem o hl2
          unfold Oper.wp
          rw [hrun]
          exact mk R m w x hm (hpre1 hne) hx hnxm (hsame ham) hres1 (Le.refl _) (.inr hxv)
        · rw [if_pos (wanted_ok hem hcg hw)]
          left
          have hRi : R (σ0.next + i) = none := hres i hin hnl
          obtain ⟨x, w', inf, hrun, hnew, hblk, hxv, hok⟩ := aopA_ok (a := a) (P := P) hem hgl o hv hRi w
          unfold Oper.wp
          rw [hrun]
          have hle : Le R (upd R (σ0.next + i) inf) := fun k j hk => by
            by_cases he : k = σ0.next + i
            · subst he; rw [hRi] at hk; cases hk
            · rw [upd_other he]; exact hk
          refine mk (upd R (σ0.next + i) inf) m w' x hm (hpre1 hne) (hx.trans (fun id hid => upd_other (by omega)) (Nat.le_refl σ0.next)) hnxm ?_ ?_ hle (.inr hxv)
          · refine hrel.allocAt hRi (by show σ0.next + i < nx m; omega) hnew b inf hblk hok rfl (fun k => ?_)
            simp only
            rw [look_hideB, look_hideB]
            by_cases he : k = σ0.next + i
            · subst he
              rw [if_pos rfl, if_neg (by
                intro h
                have h3 := h.2.2
                rw [show σ0.next + i - σ0.next = i by omega] at h3
                simp only [vis] at h3
                rw [hLs, ham] at h3
                simp at h3)]
              exact hb m hm hkbefore
            · rw [if_neg he]
              by_cases hrg : σ0.next ≤ k ∧ k < σ0.next + n
              · have : vis (listed.setIfInBounds i true) (k - σ0.next) = vis listed (k - σ0.next) := by
                  simp only [vis]
                  rw [hLs]
                  have : k - σ0.next ≠ i := by omega
                  simp [this]
                rw [this]
              · rw [if_neg (fun h => hrg ⟨h.1, h.2.1⟩), if_neg (fun h => hrg ⟨h.1, h.2.1⟩)]
          · intro k hk hkl
            rw [hLs] at hkl
            simp only [Bool.or_eq_false_iff, decide_eq_false_iff_not] at hkl
            rw [upd_other (by omega)]
            exact hres k hk hkl.2
        · rw [if_pos (wanted_ok hem hcg hw)]
          left
          -- it is the next one that writes
          have hrm : r = m := by
            have h1 : ¬ r < m := fun h => by
              have := (hpre r hr).2 h
              rw [hkr, hnl] at this; cases this
            rcases Nat.lt_or_ge m r with h2 | h2
            · exfalso
              obtain ⟨hkn, o4, p4, σ4, hl4, hp4, hc4, _⟩ := kst m (by omega)
              have hlt := kinc m r h2 hr
              rw [hkr] at hlt
              have := F.kk (ks m) i o4 _ p hlt hl4 hlo hp hc4 (by rw [hco]; exact hc)
              have := hancl (ks m) hkn this
              have := (hpre m (by omega)).1 this
              omega
            · omega
          subst hrm
          obtain ⟨_, o4, p4, σ4, hl4, hp4, hc4, hw4, hden, hHn, hnxn⟩ := kst r hr
          rw [hkr] at hl4 hp4 hw4 hden
          rw [hlo] at hl4; cases hl4
          rw [hp] at hp4; cases hp4
          rw [hco] at hden
          simp only at hden
          have hsub : ∀ id b, look (hideB σ0.next n (visK p.anc s.am) (Hh r)) id = some b → look (hideB σ0.next n (vis listed) (Hh r)) id = some b := by
            intro id b hid
            rw [look_hideB] at hid ⊢
            by_cases hcnd : σ0.next ≤ id ∧ id < σ0.next + n ∧ visK p.anc s.am (id - σ0.next) = false
            · rw [if_pos hcnd] at hid; cases hid
            · rw [if_neg hcnd] at hid
              rw [if_neg (fun hh => hcnd ⟨hh.1, hh.2.1, by
                have h3 := hh.2.2
                unfold visK
                cases hbt : p.anc.testBit (id - σ0.next) with
                | false => rfl
                | true =>
                  have := hancl (id - σ0.next) (by omega) hbt
                  simp only [vis, this, Bool.true_and] at h3
                  rw [h3]; rfl⟩)]
              exact hid
          have hsmall := hrel.shrink (σs := ⟨nx r, hideB σ0.next n (visK p.anc s.am) (Hh r)⟩) rfl hsub
          refine den1_ok hD (C := C.sub R ⟨nx r, hideB σ0.next n (visK p.anc s.am) (Hh r)⟩ w) rfl rfl hsmall hem o hden K Q (fun R' w' x hx' hn' hrel' hv' => ?_)
          have hnle : nx r ≤ σ4.next := hn'
          refine mk R' (r + 1) w' x (by omega) ?_ (hx.trans hx' (show σ0.next ≤ nx r by omega)) (by rw [hnxn]; omega) ?_ ?_ (hle0 hx') hv'
          · intro r' hr'
            rw [hLs]
            simp only [Bool.or_eq_true, decide_eq_true_eq]
            constructor
            · rintro (h | h)
              · rcases Nat.lt_trichotomy r' r with h2 | h2 | h2
                · omega
                · omega
                · have := kinc r r' h2 hr'; omega
              · have := (hpre r' hr').1 h; omega
            · intro h
              by_cases he : r' = r
              · subst he; exact .inl hkr
              · exact .inr ((hpre r' hr').2 (by omega))
          · refine hrel.regrow (σs := ⟨nx r, hideB σ0.next n (visK p.anc s.am) (Hh r)⟩) hsub hrel' hx' hnxn (fun id b hid => ?_)
            simp only at hid ⊢
            rw [look_hideB] at hid
            split at hid
            · cases hid
            · rename_i hvis
              rw [hHn, look_append, look_keepB] at hid
              by_cases hcnd : σ0.next ≤ id ∧ id < σ0.next + n ∧ visK p.anc s.am (id - σ0.next) = false
              · rw [if_pos hcnd] at hid
                cases hlk : look (Hh r) id with
                | none => rw [hlk] at hid; exact .inl hid
                | some b' =>
                  rw [hlk] at hid
                  cases hid
                  right
                  rw [look_hideB, look_hideB, if_pos hcnd]
                  refine ⟨?_, rfl⟩
                  rw [if_neg (fun hh => hvis ⟨hh.1, hh.2.1, by
                    have h3 := hh.2.2
                    simp only [vis] at h3 ⊢
                    rw [hLs]
                    by_cases he : id - σ0.next = i
                    · rw [he, ham]; simp
                    · simp only [he, decide_false, Bool.false_or]; exact h3⟩)]
                  exact hlk
              · rw [if_neg hcnd] at hid
                exact .inl hid
          · intro k hk hkl
            rw [hx' (σ0.next + k) (by show σ0.next + k < nx r; omega)]
            exact hres1 k hk hkl
    -- any order
    have hany : ∀ fuel listed a w, Inv listed a w → (List.range n).countP (fun k => !listed.getD k false) ≤ fuel → wpAny P .any ops Q fuel listed a w := by
      intro fuel
      induction fuel with
      | zero =>
        intro listed a w hI hcnt
        have hall : ∀ k, k < n → listed.getD k false = true := by
          intro k hk
          have h0 : (List.range n).countP (fun k => !listed.getD k false) = 0 := by omega
          have := List.countP_eq_zero.1 h0 k (List.mem_range.2 hk)
          simpa using this
        refine ⟨?_, hfin listed a w hI hall⟩
        apply List.eq_nil_iff_forall_not_mem.2
        intro j hj
        obtain ⟨h1, o, h2, _⟩ := mem_ready.1 hj
        have hjn : j < n := by
          rcases Nat.lt_or_ge j ops.size with h | h
          · omega
          · rw [Array.getElem?_eq_none h] at h2; cases h2
        rw [getD_true_iff hI.1 hjn, hall j hjn] at h1
        cases h1
      | succ fuel ih =>
        intro listed a w hI hcnt
        refine ⟨fun hr => hfin listed a w hI (hready_nil listed hI.1 hr), fun i hi => ?_⟩
        have hin : i < n := by
          obtain ⟨_, o, h2, _⟩ := mem_ready.1 hi
          rcases Nat.lt_or_ge i ops.size with h | h
          · omega
          · rw [Array.getElem?_eq_none h] at h2; cases h2
        have hnl : listed.getD i false = false := by rw [← getD_true_iff hI.1 hin]; exact (mem_ready.1 hi).1
        refine hstep listed a w hI i hi _ (fun a' w' hI' => ih _ a' w' hI' ?_)
        have hsz' : i < listed.size := by rw [hI.1]; exact hin
        have := cnt_lt (p := fun k => !(listed.setIfInBounds i true).getD k false) (q := fun k => !listed.getD k false) (fun k hk => by
          simp only [Bool.not_eq_true'] at hk ⊢
          rw [set_getD hsz'] at hk
          simp only [Bool.or_eq_false_iff] at hk
          exact hk.2) (i := i) (by simp only [hnl]; rfl) (by simp only [set_getD hsz']; simp) (List.range n) (List.mem_range.2 hin)
        omega
    refine wp_region_any hmix ?_
    rw [← hnops]
    have hrepl : ∀ k, (Array.replicate n false).getD k false = false := fun k => by
      simp only [Array.getD_eq_getD_getElem?, Array.getElem?_replicate]
      split <;> rfl
    refine hany n _ a0 _ ⟨by simp, ?_, hd0, R0, 0, Nat.zero_le _, ?_, Ext.refl _ _, by rw [nx0]; exact Nat.le_refl _, ?_, ?_, hnt0, ?_, ?_⟩ ?_
    · intro i o hi; rw [hrepl] at hi; cases hi
    · intro r hr; rw [hrepl]; simp
    · refine (hrel0.drawn (w00.drawn + 1)).congr (fun id hid => hrel0.fresh id (by have h1 : nx 0 ≤ id := hid; rw [nx0] at h1; omega)) (fun k b hk => ?_)
      simp only at hk
      rw [look_hideB] at hk
      split at hk
      · cases hk
      · rename_i hc
        have hnr : ¬ (σ0.next ≤ k ∧ k < σ0.next + n) := fun h => hc ⟨h.1, h.2, by simp only [vis, hrepl, Bool.false_and]⟩
        rw [hz k hnr] at hk
        exact hk
    · intro k hk _; exact hrel0.fresh _ (by omega)
    · intro i o t hi; rw [hrepl] at hi; cases hi
    · intro t v hv _; exact he0.at_ t v hv
    · refine Nat.le_trans (List.countP_le_length) (by simp)
end Go.Og
namespace Go.Og

abbrev Ans := Option (V × H)
noncomputable section

/-! ### what is quick for the kernel -/
def lookF {α : Type} (l : List (Nat × α)) (id : Nat) : Option α :=
  List.rec none (fun p _ r => Bool.rec r (some p.2) (Nat.beq p.1 id)) l
def drop1 {α : Type} (l : List (Nat × α)) (id : Nat) : List (Nat × α) :=
  List.rec [] (fun p l r => Bool.rec (p :: r) l (Nat.beq p.1 id)) l
def nthF (l : List V) : Nat → Option V :=
  List.rec (fun _ => none) (fun a _ ih n => Nat.rec (some a) (fun m _ => ih m) n) l
/-- The list without that number, made anew. -/
def forceD (l : List (Nat × Blk)) (id : Nat) : (List (Nat × Blk) → Ans) → Ans :=
  List.rec (fun k => k []) (fun p _ ih k => ih fun l' => Bool.rec (k (p :: l')) (k l') (Nat.beq p.1 id)) l

def condK (c : Bool) (a b : Ans) : Ans := match c with
  | true => a
  | false => b
def chk (c : Bool) (a : Ans) : Ans := match c with
  | true => a
  | false => none
def gK (x : Option V) (κ : V → Ans) : Ans := match x with
  | some v => κ v
  | none => none
def callK (x : Ans) (κ : V → H → Ans) : Ans := match x with
  | some (v, σ) => κ v σ
  | none => none
def joinB (f : Bool → H → Ans) (g : (Bool → H → Ans) → Ans) : Ans := g f

/-! ### numbers -/
def maxN : IntKind → Nat
  | .i8 => 127 | .i16 => 32767 | .i32 => 2147483647 | .i64 => 9223372036854775807
  | .u8 => 255 | .u16 => 65535 | .u32 => 4294967295 | .u64 => 18446744073709551615
def negN : IntKind → Nat
  | .i8 => 128 | .i16 => 32768 | .i32 => 2147483648 | .i64 => 9223372036854775808
  | .u8 => 0 | .u16 => 0 | .u32 => 0 | .u64 => 0
def inK (k : IntKind) (n : Int) : Bool := match n with
  | .ofNat m => Nat.ble m (maxN k)
  | .negSucc m => Nat.blt m (negN k)
def wrapF (k : IntKind) (n : Int) : Int := match inK k n with
  | true => n
  | false => k.wrap n
def ltF (a b : Int) : Bool := match a, b with
  | .ofNat m, .ofNat n => Nat.blt m n
  | .negSucc m, .negSucc n => Nat.blt n m
  | .negSucc _, .ofNat _ => true
  | .ofNat _, .negSucc _ => false
def leF (a b : Int) : Bool := match a, b with
  | .ofNat m, .ofNat n => Nat.ble m n
  | .negSucc m, .negSucc n => Nat.ble n m
  | .negSucc _, .ofNat _ => true
  | .ofNat _, .negSucc _ => false
def addF (k : IntKind) (a b : Int) : Int := wrapF k (Int.add a b)
def subF (k : IntKind) (a b : Int) : Int := wrapF k (Int.sub a b)
def mulF (k : IntKind) (a b : Int) : Int := wrapF k (Int.mul a b)
def quoF (k : IntKind) (a b : Int) : Int := wrapF k (Int.tdiv a b)
def shlF (k : IntKind) (a : Int) (n : Nat) : Int := wrapF k (Int.mul a (Int.ofNat (Nat.pow 2 (Nat.min n k.bits))))
def shrF (k : IntKind) (a : Int) (n : Nat) : Int := match a with
  | .ofNat m => .ofNat (Nat.div m (Nat.pow 2 (Nat.min n k.bits)))
  | .negSucc m => Int.fdiv (.negSucc m) (2 ^ (Nat.min n k.bits))
/-- Both are numbers from 0 on, within half of the kind. -/
def smallK (k : IntKind) (a b : Int) (f : Nat → Nat → Nat) (g : Int) : Int := match a, b with
  | .ofNat m, .ofNat n => match Nat.ble m (maxN k) && Nat.ble n (maxN k) with
    | true => .ofNat (f m n)
    | false => g
  | _, _ => g
def andF (k : IntKind) (a b : Int) : Int := smallK k a b Nat.land (k.wrap (BitVec.ofInt k.bits a &&& BitVec.ofInt k.bits b).toNat)
def orF (k : IntKind) (a b : Int) : Int := smallK k a b Nat.lor (k.wrap (BitVec.ofInt k.bits a ||| BitVec.ofInt k.bits b).toNat)
def xorF (k : IntKind) (a b : Int) : Int := smallK k a b Nat.xor (k.wrap (BitVec.ofInt k.bits a ^^^ BitVec.ofInt k.bits b).toNat)
def andNotF (k : IntKind) (a b : Int) : Int := k.wrap (BitVec.ofInt k.bits a &&& ~~~BitVec.ofInt k.bits b).toNat
def negF (k : IntKind) (a : Int) : Int := wrapF k (Int.sub 0 a)
def notF (k : IntKind) (a : Int) : Int := k.wrap (BitVec.ofInt k.bits (if k.signed then -1 else k.max) ^^^ BitVec.ofInt k.bits a).toNat

def nnK (b : Int) (κ : Nat → Ans) : Ans := match b with
  | .ofNat n => κ n
  | .negSucc _ => none
def nzK (b : Int) (a : Ans) : Ans := match b with
  | .ofNat 0 => none
  | _ => a
def intX (op : BinOp) (k k' : IntKind) (a b : Int) (κ : V → Ans) : Ans :=
  match op with
  | .shl => nnK b fun n => κ (.int k (shlF k a n))
  | .shr => nnK b fun n => κ (.int k (shrF k a n))
  | op => if k = k' then
      match op with
      | .add => κ (.int k (addF k a b))
      | .sub => κ (.int k (subF k a b))
      | .mul => κ (.int k (mulF k a b))
      | .quo => nzK b (κ (.int k (quoF k a b)))
      | .rem => nzK b (κ (.int k (Int.tmod a b)))
      | .and => κ (.int k (andF k a b))
      | .or => κ (.int k (orF k a b))
      | .xor => κ (.int k (xorF k a b))
      | .andNot => κ (.int k (andNotF k a b))
      | .eql => κ (.bool (eqF a b))
      | .neq => κ (.bool (not (eqF a b)))
      | .lss => κ (.bool (ltF a b))
      | .leq => κ (.bool (leF a b))
      | .gtr => κ (.bool (ltF b a))
      | .geq => κ (.bool (leF b a))
      | _ => none
    else none
def catK (a b : BS) (κ : BS → Ans) : Ans := match Nat.ble (Nat.add a.len b.len) 1000000000000 with
  | true => κ (a.cat b)
  | false => none
def ltS (a b : BS) : Bool := Op.bytesLess a.toList b.toList
def strX (op : BinOp) (a b : BS) (κ : V → Ans) : Ans :=
  match op with
  | .add => catK a b fun s => κ (.str s)
  | .eql => κ (.bool (a.beq b))
  | .neq => κ (.bool (not (a.beq b)))
  | .lss => κ (.bool (ltS a b))
  | .leq => κ (.bool (ltS a b || a.beq b))
  | .gtr => κ (.bool (not (ltS a b || a.beq b)))
  | .geq => κ (.bool (not (ltS a b)))
  | _ => none
def eqK (t : ETag) (x y : V) (κ : Bool → Ans) : Ans := match eqTag t x y with
  | some b => κ b
  | none => none
def eqX (op : BinOp) (t : ETag) (x y : V) (κ : V → Ans) : Ans := match op with
  | .eql => eqK t x y fun b => κ (.bool b)
  | .neq => eqK t x y fun b => κ (.bool (not b))
  | _ => none
def binX (op : BinOp) (t : ETag) (x y : V) (κ : V → Ans) : Ans :=
  match t with
  | .none => match x, y with
    | .int k a, .int k' b => intX op k k' a b κ
    | .str a, .str b => strX op a b κ
    | _, _ => none
  | t => eqX op t x y κ
def unX (op : UnOp) (x : V) (κ : V → Ans) : Ans :=
  match op, x with
  | .neg, .int k n => κ (.int k (negF k n))
  | .xor, .int k n => κ (.int k (notF k n))
  | .not, .bool b => κ (.bool (not b))
  | _, _ => none

/-! ### types -/
inductive XTy where
  | any | int (k : IntKind) | bool | str | ptr | one
  | agg (l : List XTy)
  | tup (l : List XTy)
  deriving Inhabited
def rtInt (k : IntKind) (v : V) (κ : Int → Ans) : Ans := match v with
  | .int k' n => if k = k' then κ n else none
  | _ => none
def rtBool (v : V) (κ : Bool → Ans) : Ans := match v with
  | .bool b => κ b
  | _ => none
def rtStr (v : V) (κ : BS → Ans) : Ans := match v with
  | .str s => κ s
  | _ => none
def rtPtr (v : V) (κ : Nat → Nat → Ans) : Ans := match v with
  | .ptr b o => κ b o
  | _ => none
def rtAgg (v : V) (κ : List V → Ans) : Ans := match v with
  | .agg l => κ l
  | _ => none
def rtTup (v : V) (κ : List V → Ans) : Ans := match v with
  | .tup l => κ l
  | _ => none
def rtCons (l : List V) (κ : V → List V → Ans) : Ans := match l with
  | v :: l => κ v l
  | [] => none
def rtNil (l : List V) (a : Ans) : Ans := match l with
  | [] => a
  | _ :: _ => none
def rtOne (v : V) (a : Ans) : Ans := match v.one with
  | true => a
  | false => none
mutual
def rt : XTy → V → (V → Ans) → Ans
  | .any, v, κ => κ v
  | .int k, v, κ => rtInt k v fun n => κ (.int k n)
  | .bool, v, κ => rtBool v fun b => κ (.bool b)
  | .str, v, κ => rtStr v fun s => κ (.str s)
  | .ptr, v, κ => rtPtr v fun b o => κ (.ptr b o)
  | .one, v, κ => rtOne v (κ v)
  | .agg ts, v, κ => rtAgg v fun l => rts ts l fun l' => κ (.agg l')
  | .tup ts, v, κ => rtTup v fun l => rts ts l fun l' => κ (.tup l')
def rts : List XTy → List V → (List V → Ans) → Ans
  | [], l, κ => rtNil l (κ [])
  | t :: ts, l, κ => rtCons l fun v l' => rt t v fun v' => rts ts l' fun l'' => κ (v' :: l'')
end

/-! ### operands -/
abbrev Qs := List (Nat × (Nat × Nat))
abbrev Rg := List (Nat × List V)
def getK (e : Env) (x : AO) (κ : V → Ans) : Ans := match x with
  | .con v => match v.live with
    | true => κ v
    | false => none
  | .tmp t => match look e t with
    | some v => κ v
    | none => none
def getsK (e : Env) : List AO → (List V → Ans) → Ans
  | [], κ => κ []
  | x :: l, κ => getK e x fun v => getsK e l fun vs => κ (v :: vs)
def getoK (e : Env) (x : Option AO) (κ : Option V → Ans) : Ans := match x with
  | none => κ none
  | some x => getK e x fun v => κ (some v)
def partsK (e : Env) : List (Nat × Nat × AO) → (List (Nat × Nat × V) → Ans) → Ans
  | [], κ => κ []
  | (o, s, x) :: l, κ => getK e x fun v => partsK e l fun r => κ ((o, s, v) :: r)
def markX (q : Qs) : AO → Option (Nat × Nat)
  | .tmp t => look q t
  | .con _ => none

/-- A bound of a slice expression. -/
def boundK (o : Option V) (d : Nat) (κ : Nat → Ans) : Ans := match o with
  | none => κ d
  | some v => match v with
    | .int _ n => nnK n κ
    | _ => none
def sliceStrX (s : BS) (lo hi : Option V) (κ : BS → Ans) : Ans :=
  boundK hi s.len fun h => boundK lo 0 fun l => chk (Nat.ble l h && Nat.ble h s.len) (κ (s.sub l h))
def idxStrX (s : BS) (i : Int) (κ : Int → Ans) : Ans :=
  nnK i fun n => chk (Nat.blt n s.len) (κ (Int.ofNat (s.get n)))
def slenK (v : V) (κ : Nat → Ans) : Ans := match v with
  | .nils => κ 0
  | .sl _ _ n _ => κ n
  | .sle _ _ _ _ => κ 0
  | _ => none
def iaddrSK (esz : Nat) (v : V) (i : Int) (κ : Nat → Nat → Ans) : Ans := match v with
  | .sl b off len _ => nnK i fun n => chk (Nat.blt n len) (κ b (Nat.add off (Nat.mul n esz)))
  | _ => none
def nthK (l : List V) (n : Nat) (κ : V → Ans) : Ans := match nthF l n with
  | some v => κ v
  | none => none
/-- l's cells from a place on, so many. -/
def subK (l : List V) (off n : Nat) (κ : List V → Ans) : Ans := match Nat.ble (Nat.add off n) l.length with
  | true => κ ((l.drop off).take n)
  | false => none

/-! ### memory -/
def rdK (E : List (Nat × Blk)) (σ : H) (b : Nat) (κ : List V → Ans) : Ans := match lookF σ.bl b with
  | some (.cells l) => κ l
  | some _ => none
  | none => match lookF E b with
    | some (.cells l) => κ l
    | _ => none
def ldK (E : List (Nat × Blk)) (σ : H) (b off : Nat) (κ : V → Ans) : Ans := rdK E σ b fun l => nthK l off κ
def ldnK (E : List (Nat × Blk)) (σ : H) (b off n : Nat) (κ : List V → Ans) : Ans := rdK E σ b fun l => subK l off n κ
def newB (σ : H) (b : Blk) : H := ⟨σ.next + 1, (σ.next, b) :: σ.bl⟩
def setF (σ : H) (b : Nat) (c : Blk) : H := ⟨σ.next, (b, c) :: drop1 σ.bl b⟩
def stK (n b off : Nat) (v : V) (σ : H) (κ : H → Ans) : Ans := match lookF σ.bl b with
  | some (.cells l) => chk (Nat.beq v.cells.length n && Nat.ble (Nat.add off n) l.length && allOne v.cells) (κ (setF σ b (.cells (spl l off v.cells))))
  | _ => none
def srcK (E : List (Nat × Blk)) (σ : H) (esz : Nat) (v : V) (κ : Nat → List V → Ans) : Ans := match v with
  | .nils => κ 0 []
  | .sle _ _ _ _ => κ 0 []
  | .sl b off len _ => rdK E σ b fun l => subK l off (len * esz) fun l' => κ len l'
  | .str s => match Nat.beq esz 1 with
    | true => κ s.len (ints s.toList)
    | false => none
  | _ => none
def appK (E : List (Nat × Blk)) (esz bytes : Nat) (s x : V) (σ : H) (κ : V → H → Ans) : Ans :=
  srcK E σ esz x fun n new =>
    match s with
    | .sl b 0 len (.op e) => match n with
      | 0 => κ s σ
      | n => match lookF σ.bl b with
        | some (.cells l) => chk (Nat.beq l.length (len * esz) && Nat.beq e esz && growable (len + n) bytes && allOne new)
            (forceD σ.bl b fun bl' => κ (.sl σ.next 0 (len + n) (.op esz)) ⟨σ.next + 1, (σ.next, .cells (l ++ new)) :: bl'⟩)
        | _ => none
    | s => callK (appendV E esz bytes s x σ) κ
def toStrK (E : List (Nat × Blk)) (σ : H) (v : V) (κ : BS → Ans) : Ans := match v with
  | .str _ => none
  | v => srcK E σ 1 v fun _ l => match bytesOf l with
    | some s => κ (BS.ofList s)
    | none => none
def fillK (l : List (Nat × Nat × V)) (z : List V) (κ : List V → Ans) : Ans := match fillA l z with
  | some l' => κ l'
  | none => none
def copyV (E : List (Nat × Blk)) (esz : Nat) (d s : V) (σ : H) : Option (V × H) :=
  match d, srcCells E σ esz s with
    | .nils, some (_, _) => some (.int .i64 0, σ)
    | .sle _ _ _ _, some (_, _) => some (.int .i64 0, σ)
    | .sl b off len _, some (n, src) =>
      let m := Nat.min n len
      if m = 0 then some (.int .i64 0, σ) else
      match look σ.bl b with
      | some (.cells l) => if Nat.ble (off + m * esz) l.length && allOne (src.take (m * esz)) then some (.int .i64 m, σ.set b (.cells (spl l off (src.take (m * esz))))) else none
      | _ => none
    | _, _ => none
theorem copyV_eq (E : List (Nat × Blk)) (esz : Nat) (d s : AO) (e : Env) (σ : H) : aopK E (.copy esz d s) e σ = copyV E esz (opv e d) (opv e s) σ := rfl
def getL (e : Env) (t : Nat) (κ : V → Ans) : Ans := match look e t with
  | some v => chk v.live (κ v)
  | none => none

def callvK (D : Den) (fv : V) (vs : List V) (σ : H) (κ : V → H → Ans) : Ans := match fv with
  | .fn g first cap => callK (D g (first ++ vs ++ cap) σ) κ
  | _ => none

/-! ### one operation -/
/-- 'id': the number of the block that it makes, if it makes one; 'nx': the next number then. -/
def valX (E : List (Nat × Blk)) (D : Den) (id nx : Nat) (o : AOp) (e : Env) (σ : H) (κ : V → H → Ans) : Ans :=
  match o with
  | .mov x => getK e x fun v => κ v σ
  | .bin op t x y => getK e x fun a => getK e y fun b => binX op t a b fun v => κ v σ
  | .un op x => getK e x fun a => unX op a fun v => κ v σ
  | .conv (.toInt k) x => getK e x fun v => match v with
    | .int _ n => κ (.int k (wrapF k n)) σ
    | _ => none
  | .conv .same x => getK e x fun v => rtStr v fun s => κ (.str s) σ
  | .conv .toStr x => getK e x fun v => toStrK E σ v fun u => κ (.str u) σ
  | .conv (.toBytes _) x => getK e x fun v => rtStr v fun s => chk (Nat.ble s.len 1000000000000) (κ (.sl id 0 s.len (.op 1)) ⟨nx, (id, .cells (ints s.toList)) :: σ.bl⟩)
  | .nilck x => getK e x fun v => rtPtr v fun b o => κ (.ptr b o) σ
  | .faddr off x => getK e x fun v => rtPtr v fun b o => κ (.ptr b (Nat.add o off)) σ
  | .field off none x => getK e x fun v => rtAgg v fun l => nthK l off fun u => κ u σ
  | .field off (some n) x => getK e x fun v => rtAgg v fun l => subK l off n fun l' => κ (.agg l') σ
  | .extract i x => getK e x fun v => rtTup v fun l => nthK l i fun u => κ u σ
  | .iaddrS esz x i => getK e x fun v => getK e i fun j => match j with
    | .int _ n => iaddrSK esz v n fun b o => κ (.ptr b o) σ
    | _ => none
  | .iaddrA len esz x i => getK e x fun v => getK e i fun j => match j with
    | .int _ n => rtPtr v fun b o => nnK n fun m => chk (Nat.blt m len) (κ (.ptr b (Nat.add o (Nat.mul m esz))) σ)
    | _ => none
  | .idxStr x i => getK e x fun v => getK e i fun j => rtStr v fun s => match j with
    | .int _ n => idxStrX s n fun u => κ (.int .u8 u) σ
    | _ => none
  | .len true x => getK e x fun v => rtStr v fun s => κ (.int .i64 (Int.ofNat s.len)) σ
  | .len false x => getK e x fun v => slenK v fun n => κ (.int .i64 (Int.ofNat n)) σ
  | .lenC n => κ (.int .i64 (Int.ofNat n)) σ
  | .sliceStr x lo hi => getK e x fun v => getoK e lo fun l => getoK e hi fun h => rtStr v fun s => sliceStrX s l h fun u => κ (.str u) σ
  | .sliceSl esz x lo hi mx => getK e x fun v => getoK e lo fun l => getoK e hi fun h => getoK e mx fun m => gK (sliceV esz v l h m) fun u => κ u σ
  | .sliceArr n esz x lo hi mx => getK e x fun v => getoK e lo fun l => getoK e hi fun h => getoK e mx fun m => gK (sliceArrV n esz v l h m) fun u => κ u σ
  | .mkifc t x => getK e x fun v => κ (.ifc t v) σ
  | .mkfn f a c => getsK e a fun xs => getsK e c fun ys => κ (.fn f xs ys) σ
  | .build z ps => partsK e ps fun l => fillK l z fun l' => κ (.agg l') σ
  | .cap x => getK e x fun v => match v with
    | .nils => κ (.int .i64 0) σ
    | .sl _ _ _ (.ex c) => κ (.int .i64 (Int.ofNat c)) σ
    | _ => none
  | .min x l => getK e x fun v => getsK e l fun vs => gK (minI v vs) fun u => match u with
    | .int k n => κ (.int k n) σ
    | _ => none
  | .max x l => getK e x fun v => getsK e l fun vs => gK (maxI v vs) fun u => match u with
    | .int k n => κ (.int k n) σ
    | _ => none
  | .load none x => getK e x fun v => rtPtr v fun b o => ldK E σ b o fun u => κ u σ
  | .load (some n) x => getK e x fun v => rtPtr v fun b o => ldnK E σ b o n fun u => κ (.agg u) σ
  | .alloc _ z => κ (.ptr id 0) ⟨nx, (id, .cells z) :: σ.bl⟩
  | .box _ x => getK e x fun v => chk (allOne v.cells) (κ (.ptr id 0) ⟨nx, (id, .cells v.cells) :: σ.bl⟩)
  | .buildSlice _ n z ps => partsK e ps fun l => fillK l z fun l' => chk (allOne l') (κ (.sl id 0 n (.ex n)) ⟨nx, (id, .cells l') :: σ.bl⟩)
  | .mkslice _ _ bytes z len cap => getK e len fun a => getK e cap fun b => match a, b with
    | .int .i64 n, .int .i64 c => nnK n fun n => nnK c fun c => chk (Nat.ble n c && Nat.ble (c * bytes) 281474976710656 && Nat.ble c 1000000000000)
        (κ (.sl id 0 n (.ex c)) ⟨nx, (id, .cells (List.replicate c z).flatten) :: σ.bl⟩)
    | _, _ => none
  | .store n x v => getK e x fun p => getK e v fun u => rtPtr p fun b o => stK n b o u σ fun σ' => κ .dead σ'
  | .append _ esz bytes s x => getK e s fun a => getK e x fun b => appK E esz bytes a b σ κ
  | .copy esz d s => getK e d fun a => getK e s fun b => callK (copyV E esz a b σ) κ
  | .call f args => getsK e args fun vs => callK (D f vs σ) κ
  | .callv f args => getK e f fun fv => getsK e args fun vs => callvK D fv vs σ κ
  | .mkmap => κ (.mp id) ⟨nx, (id, .map []) :: σ.bl⟩
  | .lookup t z m x => getK e m fun p => getK e x fun k => gK (lookupV t z p k σ) fun v => κ v σ
  | .mapset t m k v => getK e m fun p => getK e k fun a => getK e v fun b => callK (mapsetV t p a b σ) κ
  | .alloc0 el => κ (.ptr id 0) ⟨nx, (id, .unit el) :: σ.bl⟩
  | .box0 el x => getK e x fun v => match v with
    | .agg [] => κ (.ptr id 0) ⟨nx, (id, .unit el) :: σ.bl⟩
    | _ => none
  | .load0 x => getK e x fun v => rtPtr v fun _ _ => κ (.agg []) σ
  | .store0 x v => getK e x fun p => getK e v fun u => match p, u with
    | .ptr _ _, .agg [] => κ .dead σ
    | _, _ => none
  | .faddr0 t x => getK e x fun v => gK (faddr0V t v σ) fun u => κ u σ
  | .idxArr n esz none x i => getK e x fun v => getK e i fun j => rtAgg v fun l => match j with
    | .int _ k => nnK k fun m => chk (Nat.blt m n) (nthK l (Nat.mul m esz) fun u => κ u σ)
    | _ => none
  | .idxArr n esz (some s) x i => getK e x fun v => getK e i fun j => rtAgg v fun l => match j with
    | .int _ k => nnK k fun m => chk (Nat.blt m n) (subK l (Nat.mul m esz) s fun l' => κ (.agg l') σ)
    | _ => none
  | _ => none

/-- The cells of a value that is stored: 'ty' says whether it is an aggregate. -/
def cellsK (ty : XTy) (v : V) (κ : List V → Ans) : Ans := match ty with
  | .agg _ => rtAgg v fun l => chk (allOne l) (κ l)
  | _ => rtOne v (κ [v])

/-- An operation, with the blocks of the call's own: it leaves a value, or an address in one of them. -/
def opX (E : List (Nat × Blk)) (D : Den) (pw : Bool) (id nx : Nat) (o : AOp) (ty : XTy) (e : Env) (q : Qs) (r : Rg) (σ : H) (κ : V → Rg → H → Ans) (κm : Nat → Nat → Ans) : Ans :=
  match o with
  | .mov x => match markX q x with
    | some (m, off) => κm m off
    | none => valX E D id nx o e σ fun v σ' => rt ty v fun v' => κ v' r σ'
  | .nilck x => match markX q x with
    | some (m, off) => κm m off
    | none => valX E D id nx o e σ fun v σ' => rt ty v fun v' => κ v' r σ'
  | .faddr d x => match markX q x with
    | some (m, off) => κm m (off + d)
    | none => valX E D id nx o e σ fun v σ' => rt ty v fun v' => κ v' r σ'
  | .load none x => match markX q x with
    | some (m, off) => match look r m with
      | some l => nthK l off fun v => rt ty v fun v' => κ v' r σ
      | none => none
    | none => valX E D id nx o e σ fun v σ' => rt ty v fun v' => κ v' r σ'
  | .load (some n) x => match markX q x with
    | some (m, off) => match look r m with
      | some l => subK l off n fun l' => rt ty (.agg l') fun v' => κ v' r σ
      | none => none
    | none => valX E D id nx o e σ fun v σ' => rt ty v fun v' => κ v' r σ'
  | .store n x v => match markX q x with
    | some (m, off) => match pw, look r m with
      | true, some l => match markX q v with
        | none => getK e v fun u => cellsK ty u fun cs => chk (Nat.beq cs.length n && Nat.ble (off + n) l.length) (κ .dead (repl r m (spl l off cs)) σ)
        | some _ => none
      | _, _ => none
    | none => valX E D id nx o e σ fun v σ' => κ v r σ'
  | o => valX E D id nx o e σ fun v σ' => rt ty v fun v' => κ v' r σ'

/-! ### lists of operations -/
inductive XL where
  | nil
  | op (dst : Option Nat) (ty : XTy) (looks : List Nat) (o : AOp) (rest : XL)
  | pal (dst : Nat) (looks : List Nat) (el : TypeId) (z : List V) (rest : XL)
  | grp (t : Nat) (b : Bool) (l : XL) (dst : Nat) (looks : List Nat) (c x y : AO) (rest : XL)
  deriving Inhabited

def XL.size : XL → Nat
  | .nil => 0
  | .op _ _ _ _ r => r.size + 1
  | .pal _ _ _ _ r => r.size + 1
  | .grp _ _ l _ _ _ _ _ r => l.size + (r.size + 1)
/-- The operations, as the model has them. -/
def XL.flat (g : Option (Nat × Bool)) : XL → List AOper
  | .nil => []
  | .op d _ _ o r => ⟨d, o, g⟩ :: r.flat g
  | .pal d _ el z r => ⟨some d, .alloc el z, g⟩ :: r.flat g
  | .grp t b l d _ c x y r => l.flat (some (t, b)) ++ ⟨some d, .pick c x y, g⟩ :: r.flat g
def XL.lks : XL → List (List Nat)
  | .nil => []
  | .op _ _ k _ r => k :: r.lks
  | .pal _ k _ _ r => k :: r.lks
  | .grp _ _ l _ k _ _ _ r => l.lks ++ k :: r.lks
def XL.dsts : XL → List Nat
  | .nil => []
  | .op d _ _ _ r => (match d with | some d => d :: r.dsts | none => r.dsts)
  | .pal d _ _ _ r => d :: r.dsts
  | .grp _ _ l d _ _ _ _ r => l.dsts ++ d :: r.dsts

def without {α : Type} (ds : List Nat) : List (Nat × α) → List (Nat × α)
  | [] => []
  | (k, v) :: l => match memN ds k with
    | true => without ds l
    | false => (k, v) :: without ds l
def without1 {α : Type} (d : Option Nat) (l : List (Nat × α)) : List (Nat × α) := match d with
  | none => l
  | some d => without [d] l
def marked (m : Nat) : Qs → List Nat
  | [] => []
  | (t, p) :: l => match Nat.beq p.1 m with
    | true => t :: marked m l
    | false => marked m l
/-- No address within that block any more. -/
def unmark (m : Nat) (q : Qs) : Qs := without (marked m q) q
def restrQ : List Nat → Qs → Qs
  | [], _ => []
  | t :: l, q => match look q t with
    | some p => (t, p) :: restrQ l q
    | none => restrQ l q
def selE (dr : Bool) (ks : List Nat) (e : Env) : Env := match dr with
  | true => restr ks e
  | false => e
def selQ (dr : Bool) (ks : List Nat) (q : Qs) : Qs := match dr with
  | true => restrQ ks q
  | false => q
def putQ (q : Qs) (d : Option Nat) (p : Nat × Nat) : Qs := match d with
  | some d => (d, p) :: q
  | none => q

/-- 'dr': the order is open. -/
def denL (E : List (Nat × Blk)) (D : Den) (dr pw : Bool) (_n0 : Nat) (l : XL) : Nat → Env → Qs → Rg → H → (Env → Qs → Rg → H → Ans) → Ans :=
  XL.rec (motive := fun _ => Bool → Nat → Env → Qs → Rg → H → (Env → Qs → Rg → H → Ans) → Ans)
    (fun _ _ e q r σ κ => κ e q r σ)
    (fun d ty ks o _ ih pw i e q r σ κ =>
      opX E D pw σ.next (σ.next + 1) o ty (selE dr ks e) (selQ dr ks q) r σ
        (fun v r' σ' => ih pw (i + 1) (putE e d v) (without1 d q) r' σ' κ)
        (fun m off => ih pw (i + 1) (without1 d e) (putQ (without1 d q) d (m, off)) r σ κ))
    (fun d _ _ z _ ih pw i e q r σ κ => match pw with
      | true => ih true (i + 1) (without [d] e) ((d, (d, 0)) :: unmark d (without [d] q)) ((d, z) :: without [d] r) σ κ
      | false => none)
    (fun t b l d ks _ x y _ ihl ih pw i e q r σ κ =>
      getK (selE dr [t] e) (.tmp t) fun c => rtBool c fun cb =>
        joinB (fun v σ' => ih pw (i + l.size + 1) ((d, .bool v) :: without (d :: l.dsts) e) (without (d :: l.dsts) q) r σ' κ) fun k =>
          match b with
          | true => condK cb
              (ihl false i e q r σ fun e' _ _ σ' => getK (selE dr ks e') x fun v => rtBool v fun v => k v σ')
              (getK (selE dr ks e) y fun v => rtBool v fun v => k v σ)
          | false => condK cb
              (getK (selE dr ks e) x fun v => rtBool v fun v => k v σ)
              (ihl false i e q r σ fun e' _ _ σ' => getK (selE dr ks e') y fun v => rtBool v fun v => k v σ'))
    l pw
section
variable {E : List (Nat × Blk)} {D : Den} {dr : Bool} {n0 i : Nat} {e : Env} {q : Qs} {r : Rg} {σ : H} {κ : Env → Qs → Rg → H → Ans}
theorem denL_op {pw : Bool} (d : Option Nat) (ty : XTy) (ks : List Nat) (o : AOp) (rest : XL) : denL E D dr pw n0 (.op d ty ks o rest) i e q r σ κ = opX E D pw σ.next (σ.next + 1) o ty (selE dr ks e) (selQ dr ks q) r σ
      (fun v r' σ' => denL E D dr pw n0 rest (i + 1) (putE e d v) (without1 d q) r' σ' κ)
      (fun m off => denL E D dr pw n0 rest (i + 1) (without1 d e) (putQ (without1 d q) d (m, off)) r σ κ) := rfl
theorem denL_pal (d : Nat) (ks : List Nat) (el : TypeId) (z : List V) (rest : XL) : denL E D dr true n0 (.pal d ks el z rest) i e q r σ κ = denL E D dr true n0 rest (i + 1) (without [d] e) ((d, (d, 0)) :: unmark d (without [d] q)) ((d, z) :: without [d] r) σ κ := rfl
theorem denL_palF (d : Nat) (ks : List Nat) (el : TypeId) (z : List V) (rest : XL) : denL E D dr false n0 (.pal d ks el z rest) i e q r σ κ = none := rfl
theorem denL_grp {pw : Bool} (t : Nat) (b : Bool) (l : XL) (d : Nat) (ks : List Nat) (c x y : AO) (rest : XL) : denL E D dr pw n0 (.grp t b l d ks c x y rest) i e q r σ κ =
      getK (selE dr [t] e) (.tmp t) fun c => rtBool c fun cb =>
        joinB (fun v σ' => denL E D dr pw n0 rest (i + l.size + 1) ((d, .bool v) :: without (d :: l.dsts) e) (without (d :: l.dsts) q) r σ' κ) fun k =>
          match b with
          | true => condK cb
              (denL E D dr false n0 l i e q r σ fun e' _ _ σ' => getK (selE dr ks e') x fun v => rtBool v fun v => k v σ')
              (getK (selE dr ks e) y fun v => rtBool v fun v => k v σ)
          | false => condK cb
              (getK (selE dr ks e) x fun v => rtBool v fun v => k v σ)
              (denL E D dr false n0 l i e q r σ fun e' _ _ σ' => getK (selE dr ks e') y fun v => rtBool v fun v => k v σ') := rfl
end

/-! ### code -/
structure St where
  e : Env
  q : Qs
  r : Rg
  σ : H

inductive XC where
  | skip
  | ops (l : XL)
  | draw (l : XL) (ancs : List Nat)
  | gdraw (ops : List AOper) (plan : List DP) (ts : List (Nat × XTy))
  | seq (a b : XC)
  | cond (c : AO) (a b : XC)
  | block (id : Nat) (c : XC)
  | loop (ts : List (Nat × XTy)) (ms : List Nat) (rs : List (Nat × List XTy)) (c : XC)
  | exit (id : Nat)
  | ret
  | keep (ts : List (Nat × XTy)) (ms : List Nat) (rs : List (Nat × List XTy)) (c : XC)
  | bad
  deriving Inhabited

def keepL (e : Env) : List (Nat × XTy) → (Env → Ans) → Ans
  | [], κ => κ []
  | (t, ty) :: l, κ => getL e t fun v => rt ty v fun v' => keepL e l fun e' => κ ((t, v') :: e')
/-- The addresses of those temporaries, within those blocks. -/
def keepQ (ms rs : List Nat) (q : Qs) : Qs := match ms with
  | [] => []
  | t :: l => match look q t with
    | some p => (match memN rs p.1 with
      | true => (t, p) :: keepQ l rs q
      | false => keepQ l rs q)
    | none => keepQ l rs q
def keepE (e : Env) : List (Nat × XTy) → (Env → Ans) → Ans
  | [], κ => κ []
  | (t, ty) :: l, κ => getK e (.tmp t) fun v => rt ty v fun v' => keepE e l fun e' => κ ((t, v') :: e')
def keepR (r : Rg) : List (Nat × List XTy) → (Rg → Ans) → Ans
  | [], κ => κ []
  | (m, tys) :: l, κ => match look r m with
    | some cs => rts tys cs fun cs' => keepR r l fun r' => κ ((m, cs') :: r')
    | none => none
def iterK (f : (St → Ans) → St → Ans) (N : Nat) : St → Ans := Nat.rec (fun _ => none) (fun _ ih => f ih) N

theorem iterK_succ (f : (St → Ans) → St → Ans) (n : Nat) (s : St) : iterK f (n + 1) s = f (iterK f n) s := rfl
/-- Does it make a block that others may see? -/
def XL.makes : XL → Bool
  | .nil => false
  | .op _ _ _ o r => (match o.cls with | .a => true | _ => r.makes)
  | .pal _ _ _ _ r => r.makes
  | .grp _ _ l _ _ _ _ _ r => l.makes || r.makes
def XL.pals : XL → List Nat
  | .nil => []
  | .op _ _ _ _ r => r.pals
  | .pal d _ _ _ r => d :: r.pals
  | .grp _ _ l _ _ _ _ _ r => l.pals ++ r.pals
def palsOk (q : Qs) : List Nat → Bool
  | [] => true
  | d :: l => (marked d q).isEmpty && palsOk q l

def keepS (ts : List (Nat × XTy)) (ms : List Nat) (rs : List (Nat × List XTy)) (s : St) (κ : St → Ans) : Ans :=
  keepE s.e ts fun e' => keepR s.r rs fun r' => κ ⟨e', keepQ ms (rs.map Prod.fst) s.q, r', s.σ⟩
def blkK (id : Nat) (kn : St → Ans) (kx : Nat → St → Ans) : Nat → St → Ans := fun j s' => match Nat.beq j id with
  | true => kn s'
  | false => kx j s'
def drawK (q : Qs) (ds : List Nat) (a : Ans) : Ans := match palsOk q ds with
  | true => a
  | false => none
def gdrawK (x : Option (Env × H)) (κ : Env → H → Ans) : Ans := match x with
  | some (e, σ) => κ e σ
  | none => none
def denC (E : List (Nat × Blk)) (D : Den) (W : DrawFn) (N : Nat) (c : XC) : St → (St → Ans) → (Nat → St → Ans) → (St → Ans) → Ans :=
  XC.rec (motive := fun _ => St → (St → Ans) → (Nat → St → Ans) → (St → Ans) → Ans)
    (fun s kn _ _ => kn s)
    (fun l s kn _ _ => denL E D false true 0 l 0 s.e s.q s.r s.σ fun e q r σ => kn ⟨e, q, r, σ⟩)
    (fun l _ s kn _ _ => drawK s.q l.pals (denL E D true true 0 l 0 s.e s.q s.r s.σ fun e q r σ => kn ⟨e, q, r, σ⟩))
    (fun ops pl ts s kn _ _ => gdrawK (W ops pl s.e s.σ) fun e' σ' => keepL e' ts fun e'' => kn ⟨e'', [], [], σ'⟩)
    (fun _ _ iha ihb s kn kx kr => iha s (fun s' => ihb s' kn kx kr) kx kr)
    (fun c _ _ iha ihb s kn kx kr => getK s.e c fun v => rtBool v fun cb => condK cb (iha s kn kx kr) (ihb s kn kx kr))
    (fun id _ ih s kn kx kr => ih s kn (blkK id kn kx) kr)
    (fun ts ms rs _ ih s _ kx kr => keepS ts ms rs s fun s0 => iterK (fun rec s' => ih s' (fun s'' => keepS ts ms rs s'' rec) kx kr) N s0)
    (fun id s _ kx _ => kx id s)
    (fun s _ _ kr => kr s)
    (fun ts ms rs _ ih s kn kx kr => keepS ts ms rs s fun s0 => ih s0 kn kx kr)
    (fun _ _ _ _ => none)
    c
section
variable {E : List (Nat × Blk)} {D : Den} {W : DrawFn} {N : Nat} {s : St} {kn : St → Ans} {kx : Nat → St → Ans} {kr : St → Ans}
theorem denC_ops (l : XL) : denC E D W N (.ops l) s kn kx kr = denL E D false true 0 l 0 s.e s.q s.r s.σ fun e q r σ => kn ⟨e, q, r, σ⟩ := rfl
theorem denC_draw (l : XL) (ancs : List Nat) : denC E D W N (.draw l ancs) s kn kx kr = drawK s.q l.pals (denL E D true true 0 l 0 s.e s.q s.r s.σ fun e q r σ => kn ⟨e, q, r, σ⟩) := rfl
theorem denC_gdraw (ops : List AOper) (pl : List DP) (ts : List (Nat × XTy)) : denC E D W N (.gdraw ops pl ts) s kn kx kr = gdrawK (W ops pl s.e s.σ) fun e' σ' => keepL e' ts fun e'' => kn ⟨e'', [], [], σ'⟩ := rfl
theorem denC_seq (a b : XC) : denC E D W N (.seq a b) s kn kx kr = denC E D W N a s (fun s' => denC E D W N b s' kn kx kr) kx kr := rfl
theorem denC_cond (c : AO) (a b : XC) : denC E D W N (.cond c a b) s kn kx kr = getK s.e c fun v => rtBool v fun cb => condK cb (denC E D W N a s kn kx kr) (denC E D W N b s kn kx kr) := rfl
theorem denC_block (id : Nat) (c : XC) : denC E D W N (.block id c) s kn kx kr = denC E D W N c s kn (blkK id kn kx) kr := rfl
theorem denC_loop (ts : List (Nat × XTy)) (ms : List Nat) (rs : List (Nat × List XTy)) (c : XC) : denC E D W N (.loop ts ms rs c) s kn kx kr = keepS ts ms rs s fun s0 => iterK (fun rec s' => denC E D W N c s' (fun s'' => keepS ts ms rs s'' rec) kx kr) N s0 := rfl
theorem denC_keep (ts : List (Nat × XTy)) (ms : List Nat) (rs : List (Nat × List XTy)) (c : XC) : denC E D W N (.keep ts ms rs c) s kn kx kr = keepS ts ms rs s fun s0 => denC E D W N c s0 kn kx kr := rfl
end

/-! ### functions -/
structure XFn where
  ntmps : Nat
  params : List XTy
  results : List AR
  body : XC
  deriving Inhabited

def resK (E : List (Nat × Blk)) (s : St) : List AR → (List V → Ans) → Ans
  | [], κ => κ []
  | .tmp t :: l, κ => getK s.e (.tmp t) fun v => resK E s l fun r => κ (v :: r)
  | .cell t n :: l, κ => match look s.q t with
    | some (m, off) => match look s.r m with
      | some cs => match n with
        | none => nthK cs off fun v => resK E s l fun r => κ (v :: r)
        | some n => subK cs off n fun l' => resK E s l fun r => κ (.agg l' :: r)
      | none => none
    | none => getK s.e (.tmp t) fun p => rtPtr p fun b o => match n with
      | none => ldK E s.σ b o fun v => resK E s l fun r => κ (v :: r)
      | some n => ldnK E s.σ b o n fun v => resK E s l fun r => κ (.agg v :: r)
def runX (E : List (Nat × Blk)) (D : Den) (W : DrawFn) (N : Nat) (f : XFn) (args : List V) (σ : H) : Ans :=
  rts f.params args fun args' => denC E D W N f.body ⟨argE 0 args', [], [], σ⟩ (fun s => resK E s f.results fun l => some (oneV l, s.σ)) (fun _ _ => none) (fun s => resK E s f.results fun l => some (oneV l, s.σ))

def XC.strip : XC → AC
  | .skip => .skip
  | .ops l => .region (l.flat none)
  | .draw l ancs => .draw (l.flat none) (List.zipWith DP.mk ancs l.lks)
  | .gdraw l pl _ => .draw l pl
  | .seq a b => .seq a.strip b.strip
  | .cond c a b => .cond c a.strip b.strip
  | .block id c => .block id c.strip
  | .loop _ _ _ c => .loop c.strip
  | .exit id => .exit id
  | .ret => .ret
  | .keep _ _ _ c => c.strip
  | .bad => .bad
def XFn.strip (f : XFn) : AFn := ⟨f.ntmps, f.results, [], f.body.strip⟩

/-! ### what is asked of the code beforehand -/
/-- 'ds': what has been written within the group; none: not within one. -/
def XTy.known : XTy → Bool
  | .any => false
  | _ => true
def okD (d : Option Nat) (ty : XTy) (o : AOp) : Bool := match d, o with
  | none, _ => true
  | some _, .store _ _ _ => false
  | some _, o => (match o.cls with
    | .k => ty.known
    | _ => true)
def seen (gt : Option Nat) (ks : List Nat) : Bool := match gt with
  | none => true
  | some t => memN ks t
def pickOk (t : Nat) (b : Bool) (ds : List Nat) (c x y : AO) : Bool :=
  (match c with
    | .tmp u => Nat.beq u t
    | .con _ => false) &&
  (match (match b with | true => y | false => x) with
    | .tmp u => !memN ds u
    | .con _ => true)
/-- 'gt': the temporary that guards the group. -/
def XL.okG : XL → Option (List Nat) → Option Nat → Bool
  | .nil, _, _ => true
  | .op d ty ks o r, ds, gt => okD d ty o && seen gt ks && (match ds, d with
    | some l, some d => r.okG (some (d :: l)) gt
    | _, _ => r.okG ds gt)
  | .pal _ ks _ _ r, ds, gt => seen gt ks && (match ds with
    | some _ => false
    | none => r.okG none gt)
  | .grp t b l d ks c x y r, ds, gt => seen gt ks && memN ks t && !memN l.dsts t && pickOk t b l.dsts c x y && (match ds with
    | some ds' => memN ds' t
    | none => true) && l.okG (some []) (some t) && (match ds with
    | some ds' => r.okG (some (d :: l.dsts ++ ds')) gt
    | none => r.okG none gt)
/-- The order of what reads and writes memory is not open. -/
def drawOk (l : List AOper) (ancs : List Nat) : Bool :=
  allN l.length fun k => match l[k]? with
    | some ok => (match ok.op.cls with
      | .k => allN l.length fun j => match l[j]? with
        | some oj => (match oj.op.cls with
          | .l => (ancs.getD j 0).testBit k || (ancs.getD k 0).testBit j
          | .a => !Nat.blt j k || (ancs.getD k 0).testBit j
          | _ => true)
        | none => false
      | _ => true)
    | none => false
def noBad : List AOper → Bool
  | [] => true
  | o :: l => (match o.op with
    | .bad => false
    | _ => true) && noBad l
def XC.ok : XC → Bool
  | .skip => true
  | .ops l => l.okG none none
  | .draw l ancs => l.okG none none && drawOk (l.flat none) ancs && Nat.beq ancs.length l.lks.length && !l.makes && noBad (l.flat none)
  | .gdraw _ _ _ => true
  | .seq a b => a.ok && b.ok
  | .cond _ a b => a.ok && b.ok
  | .block _ c => c.ok
  | .loop _ _ _ c => c.ok
  | .exit _ => true
  | .ret => true
  | .keep _ _ _ c => c.ok
  | .bad => true
end

/-! ### short forms, for printed code -/
def AO.t (i : Nat) : AO := .tmp i
def AO.i (n : Nat) : AO := .con (.int .i64 (Int.ofNat n))
def XTy.i : XTy := .int .i64
def XL.m (d s : Nat) (k : XL) : XL := .op (some d) .any [s] (.mov (.tmp s)) k
def XL.p (d : Nat) (ks : List Nat) (o : AOp) (k : XL) : XL := .op (some d) .any ks o k
def AO.ts : List AO → List Nat
  | [] => []
  | .tmp i :: l => i :: AO.ts l
  | .con _ :: l => AO.ts l
def XL.f (d k s : Nat) (r : XL) : XL := .op (some d) .any [s] (.faddr k (.tmp s)) r
def XL.n (d s : Nat) (r : XL) : XL := .op (some d) .any [s] (.nilck (.tmp s)) r
def XL.u (d s : Nat) (r : XL) : XL := .op (some d) .any [s] (.len false (.tmp s)) r
def XL.s (d e x i : Nat) (r : XL) : XL := .op (some d) .any [x, i] (.iaddrS e (.tmp x) (.tmp i)) r
def XL.b (d : Nat) (o : BinOp) (t : ETag) (x y : AO) (r : XL) : XL := .op (some d) .any (AO.ts [x, y]) (.bin o t x y) r
def XL.q (d n : Nat) (r : XL) : XL := .op (some d) .any [] (.mov (.con (.int .i64 (Int.ofNat n)))) r
def XL.c (d : Nat) (v : V) (r : XL) : XL := .op (some d) .any [] (.mov (.con v)) r
def XL.l (d : Nat) (t : XTy) (s : Nat) (r : XL) : XL := .op (some d) t [s] (.load none (.tmp s)) r
def XL.k (d : Nat) (t : XTy) (f : FuncId) (l : List AO) (r : XL) : XL := .op (some d) t (AO.ts l) (.call f l) r
def XL.w (n x v : Nat) (r : XL) : XL := .op none .any [x, v] (.store n (.tmp x) (.tmp v)) r
def AOp.ts : AOp → List Nat
  | .mov x | .box _ x | .load _ x | .nilck x | .un _ x | .conv _ x | .mkifc _ x | .faddr _ x | .field _ _ x | .extract _ x | .len _ x | .cap x => AO.ts [x]
  | .bin _ _ x y | .iaddrS _ x y | .iaddrA _ _ x y | .idxStr x y | .idxArr _ _ _ x y | .append _ _ _ x y | .mkslice _ _ _ _ x y => AO.ts [x, y]
  | .call _ l => AO.ts l
  | .callv f l => AO.ts (f :: l)
  | _ => []
def XL.P (d : Nat) (o : AOp) (r : XL) : XL := .op (some d) .any o.ts o r
def XL.O (d : Nat) (t : XTy) (o : AOp) (r : XL) : XL := .op (some d) t o.ts o r
def XL.gA (t : Nat) (b : Bool) (l : XL) (d c x : Nat) (r : XL) : XL := .grp t b l d [c, x] (.tmp c) (.tmp x) (.con (.bool false)) r
def XL.gO (t : Nat) (b : Bool) (l : XL) (d c x : Nat) (r : XL) : XL := .grp t b l d [c, x] (.tmp c) (.con (.bool true)) (.tmp x) r
def XC.z (a : XL) (b : XC) : XC := .seq (.ops a) b
/-- A new block. -/
def nbK (l : List V) (σ : H) (κ : H → Ans) : Ans := chk (allOne l) (κ (newB σ (.cells l)))
/-- An element of a list, and what it is. -/
def xcI (k : IntKind) (l : List V) (κ : Int → List V → Ans) : Ans := rtCons l fun v m => rtInt k v fun n => κ n m
def xcB (l : List V) (κ : Bool → List V → Ans) : Ans := rtCons l fun v m => rtBool v fun b => κ b m
def xcS (l : List V) (κ : BS → List V → Ans) : Ans := rtCons l fun v m => rtStr v fun s => κ s m
end Go.Og
set_option linter.unusedSimpArgs false
namespace Go.Og

/-! ### lists -/
theorem lookF_cons {α : Type} (p : Nat × α) (l : List (Nat × α)) (id : Nat) : lookF (p :: l) id = if p.1 = id then some p.2 else lookF l id := by
  show (Bool.rec (motive := fun _ => Option α) (lookF l id) (some p.2) (Nat.beq p.1 id)) = _
  by_cases h : p.1 = id
  · have hb : Nat.beq p.1 id = true := by rw [Nat.beq_eq]; exact h
    rw [if_pos h, hb]
  · rw [if_neg h]
    have : Nat.beq p.1 id = false := Bool.eq_false_iff.2 (by rw [ne_eq, Nat.beq_eq]; exact h)
    rw [this]
theorem lookF_eq {α : Type} (l : List (Nat × α)) (id : Nat) : lookF l id = look l id := by
  induction l with
  | nil => rfl
  | cons p l ih =>
    obtain ⟨k, b⟩ := p
    rw [lookF_cons, ih]
    simp only [look, Nat.beq_eq]
theorem drop1_cons {α : Type} (p : Nat × α) (l : List (Nat × α)) (id : Nat) : drop1 (p :: l) id = if p.1 = id then l else p :: drop1 l id := by
  show (Bool.rec (motive := fun _ => List (Nat × α)) (p :: drop1 l id) l (Nat.beq p.1 id)) = _
  by_cases h : p.1 = id
  · have hb : Nat.beq p.1 id = true := by rw [Nat.beq_eq]; exact h
    rw [if_pos h, hb]
  · rw [if_neg h]
    have : Nat.beq p.1 id = false := Bool.eq_false_iff.2 (by rw [ne_eq, Nat.beq_eq]; exact h)
    rw [this]
theorem look_drop1 {α : Type} (l : List (Nat × α)) (id k : Nat) (h : id ≠ k) : look (drop1 l id) k = look l k := by
  induction l with
  | nil => rfl
  | cons p l ih =>
    obtain ⟨m, b⟩ := p
    rw [drop1_cons]
    by_cases hm : m = id
    · rw [if_pos hm]; simp only [look, Nat.beq_eq]; rw [if_neg (by omega)]
    · rw [if_neg hm]; simp only [look, Nat.beq_eq, ih]
theorem nthF_eq (l : List V) (n : Nat) : nthF l n = l[n]? := by
  induction l generalizing n with
  | nil => rfl
  | cons a l ih =>
    cases n with
    | zero => rfl
    | succ n => exact ih n
theorem forceD_eq (l : List (Nat × Blk)) (id : Nat) (κ : List (Nat × Blk) → Ans) : forceD l id κ = κ (drop l id) := by
  induction l generalizing κ with
  | nil => rfl
  | cons p l ih =>
    obtain ⟨k, b⟩ := p
    show forceD l id (fun l' => Bool.rec (motive := fun _ => Ans) (κ ((k, b) :: l')) (κ l') (Nat.beq k id)) = _
    rw [ih]
    simp only [drop]
    cases hb : Nat.beq k id <;> simp [hb]

theorem chk_some {c : Bool} {a : Ans} {r : V × H} (h : chk c a = some r) : c = true ∧ a = some r := by
  cases c with
  | true => exact ⟨rfl, h⟩
  | false => cases h
theorem condK_true (a b : Ans) : condK true a b = a := rfl
theorem condK_false (a b : Ans) : condK false a b = b := rfl
theorem gK_some {x : Option V} {κ : V → Ans} {r : V × H} (h : gK x κ = some r) : ∃ v, x = some v ∧ κ v = some r := by
  cases x with
  | none => cases h
  | some v => exact ⟨v, rfl, h⟩
theorem callK_some {x : Ans} {κ : V → H → Ans} {r : V × H} (h : callK x κ = some r) : ∃ v σ, x = some (v, σ) ∧ κ v σ = some r := by
  cases x with
  | none => cases h
  | some p => exact ⟨p.1, p.2, rfl, h⟩

/-! ### numbers -/
theorem wrap_in {k : IntKind} {n : Int} (h : inK k n = true) : k.wrap n = n := by
  unfold IntKind.wrap
  cases n with
  | ofNat m =>
    simp only [inK, Nat.ble_eq] at h
    cases k <;> simp only [maxN] at h <;> simp only [IntKind.signed, IntKind.bits, Int.ofNat_eq_natCast] <;> simp <;> omega
  | negSucc m =>
    simp only [inK, Nat.blt_eq] at h
    cases k <;> simp only [negN] at h <;> (first | omega | skip) <;> simp only [IntKind.signed, IntKind.bits, Int.negSucc_eq] <;> simp <;> omega
theorem wrapF_eq (k : IntKind) (n : Int) : wrapF k n = k.wrap n := by
  unfold wrapF
  cases h : inK k n with
  | true => exact (wrap_in h).symm
  | false => rfl
theorem ltF_eq (a b : Int) : ltF a b = decide (a < b) := by
  cases a <;> cases b <;> simp only [ltF] <;> (rw [Bool.eq_iff_iff]; simp [Nat.blt_eq]) <;> omega
theorem leF_eq (a b : Int) : leF a b = decide (a ≤ b) := by
  cases a <;> cases b <;> simp only [leF] <;> (rw [Bool.eq_iff_iff]; simp [Nat.ble_eq]) <;> omega
theorem addF_eq (k : IntKind) (a b : Int) : addF k a b = k.wrap (a + b) := wrapF_eq k _
theorem subF_eq (k : IntKind) (a b : Int) : subF k a b = k.wrap (a - b) := wrapF_eq k _
theorem mulF_eq (k : IntKind) (a b : Int) : mulF k a b = k.wrap (a * b) := wrapF_eq k _
theorem quoF_eq (k : IntKind) (a b : Int) : quoF k a b = k.wrap (a.tdiv b) := wrapF_eq k _
theorem negF_eq (k : IntKind) (a : Int) : negF k a = k.wrap (0 - a) := wrapF_eq k _
theorem shlF_eq (k : IntKind) (a : Int) (n : Nat) : shlF k a n = k.wrap (a * 2 ^ (Nat.min n k.bits)) := by
  unfold shlF
  rw [wrapF_eq]
  have h : (Int.ofNat (Nat.pow 2 (Nat.min n k.bits))) = (2 : Int) ^ (Nat.min n k.bits) := by
    show ((2 ^ (Nat.min n k.bits) : Nat) : Int) = _
    rw [Int.natCast_pow]; rfl
  rw [h]; rfl
theorem shrF_eq (k : IntKind) (a : Int) (n : Nat) : shrF k a n = a.fdiv (2 ^ (Nat.min n k.bits)) := by
  cases a with
  | ofNat m =>
    have h : (2 : Int) ^ (Nat.min n k.bits) = ((2 ^ (Nat.min n k.bits) : Nat) : Int) := by rw [Int.natCast_pow]; rfl
    rw [h]
    show ((m / 2 ^ (Nat.min n k.bits) : Nat) : Int) = Int.fdiv ((m : Nat) : Int) _
    rw [Int.fdiv_eq_ediv_of_nonneg _ (Int.natCast_nonneg _), Int.natCast_ediv]
  | negSucc m => rfl

theorem maxN_pow (k : IntKind) : ∃ p, maxN k + 1 = 2 ^ p ∧ p ≤ k.bits := by
  cases k
  · exact ⟨7, rfl, by decide⟩
  · exact ⟨15, rfl, by decide⟩
  · exact ⟨31, rfl, by decide⟩
  · exact ⟨63, rfl, by decide⟩
  · exact ⟨8, rfl, by decide⟩
  · exact ⟨16, rfl, by decide⟩
  · exact ⟨32, rfl, by decide⟩
  · exact ⟨64, rfl, by decide⟩
theorem bv_small {k : IntKind} {m : Nat} (h : m ≤ maxN k) : (BitVec.ofInt k.bits (Int.ofNat m)).toNat = m := by
  obtain ⟨p, hp, hb⟩ := maxN_pow k
  have h1 : m < 2 ^ k.bits := Nat.lt_of_lt_of_le (by omega) (Nat.pow_le_pow_right (by decide) hb)
  have : BitVec.ofInt k.bits (Int.ofNat m) = BitVec.ofNat k.bits m := by
    show BitVec.ofInt k.bits ((m : Nat) : Int) = _
    rw [BitVec.ofInt_natCast]
  rw [this, BitVec.toNat_ofNat, Nat.mod_eq_of_lt h1]
theorem small_ok {k : IntKind} {a b : Int} {f : Nat → Nat → Nat} {g : Int} (h : ∀ m n, a = .ofNat m → b = .ofNat n → m ≤ maxN k → n ≤ maxN k → g = .ofNat (f m n)) : smallK k a b f g = g := by
  unfold smallK
  split
  · rename_i m n
    cases hc : (Nat.ble m (maxN k) && Nat.ble n (maxN k)) with
    | true =>
      simp only [Bool.and_eq_true, Nat.ble_eq] at hc
      exact (h m n rfl rfl hc.1 hc.2).symm
    | false => rfl
  · rfl
theorem wrap_nat {k : IntKind} {m : Nat} (h : m ≤ maxN k) : k.wrap (m : Int) = .ofNat m := wrap_in (n := .ofNat m) (by simpa [inK] using h)
theorem andF_eq (k : IntKind) (a b : Int) : andF k a b = k.wrap (BitVec.ofInt k.bits a &&& BitVec.ofInt k.bits b).toNat := by
  refine small_ok fun m n ha hb hm hn => ?_
  subst ha hb
  rw [BitVec.toNat_and, bv_small hm, bv_small hn]
  exact wrap_nat (Nat.le_trans Nat.and_le_left hm)
theorem orF_eq (k : IntKind) (a b : Int) : orF k a b = k.wrap (BitVec.ofInt k.bits a ||| BitVec.ofInt k.bits b).toNat := by
  refine small_ok fun m n ha hb hm hn => ?_
  subst ha hb
  obtain ⟨p, hp, _⟩ := maxN_pow k
  rw [BitVec.toNat_or, bv_small hm, bv_small hn]
  refine wrap_nat ?_
  have := Nat.or_lt_two_pow (x := m) (y := n) (n := p) (by omega) (by omega)
  omega
theorem xorF_eq (k : IntKind) (a b : Int) : xorF k a b = k.wrap (BitVec.ofInt k.bits a ^^^ BitVec.ofInt k.bits b).toNat := by
  refine small_ok fun m n ha hb hm hn => ?_
  subst ha hb
  obtain ⟨p, hp, _⟩ := maxN_pow k
  rw [BitVec.toNat_xor, bv_small hm, bv_small hn]
  refine wrap_nat ?_
  have := Nat.xor_lt_two_pow (x := m) (y := n) (n := p) (by omega) (by omega)
  omega

theorem nnK_some {b : Int} {κ : Nat → Ans} {r : V × H} (h : nnK b κ = some r) : 0 ≤ b ∧ κ b.toNat = some r := by
  cases b with
  | ofNat n => exact ⟨Int.natCast_nonneg n, h⟩
  | negSucc n => cases h
theorem nzK_some {b : Int} {a : Ans} {r : V × H} (h : nzK b a = some r) : b ≠ 0 ∧ a = some r := by
  unfold nzK at h
  split at h
  · cases h
  · rename_i hb; exact ⟨fun h0 => hb (by rw [h0]; rfl), h⟩
theorem intX_some {op : BinOp} {t : ETag} {k k' : IntKind} {a b : Int} {κ : V → Ans} {r : V × H} (h : intX op k k' a b κ = some r) : ∃ v, binV op t (.int k a) (.int k' b) = some v ∧ κ v = some r := by
  cases op
  case shl =>
    obtain ⟨h1, h2⟩ := nnK_some h
    refine ⟨_, ?_, h2⟩
    simp only [binV, shiftI]
    rw [if_neg (by omega), shlF_eq]; rfl
  case shr =>
    obtain ⟨h1, h2⟩ := nnK_some h
    refine ⟨_, ?_, h2⟩
    simp only [binV, shiftI]
    rw [if_neg (by omega), shrF_eq]; rfl
  all_goals
    simp only [intX] at h
    split at h
    · rename_i hk
      simp only [binV]
      rw [if_pos hk]
      first
        | (refine ⟨_, ?_, h⟩; simp only [arith, cmpInt, addF_eq, subF_eq, mulF_eq, andF_eq, orF_eq, xorF_eq, andNotF, eqF_eq, ltF_eq, leF_eq]; rfl)
        | (obtain ⟨h1, h2⟩ := nzK_some h
           refine ⟨_, ?_, h2⟩
           simp only [arith]
           rw [if_neg h1]
           first | rfl | (rw [quoF_eq]; rfl))
    · cases h
theorem catK_some {a b : BS} {κ : BS → Ans} {r : V × H} (h : catK a b κ = some r) : Nat.ble (Nat.add a.len b.len) 1000000000000 = true ∧ κ (a.cat b) = some r := by
  unfold catK at h
  split at h
  · rename_i hc; exact ⟨hc, h⟩
  · cases h
theorem strX_some {op : BinOp} {t : ETag} {a b : BS} {κ : V → Ans} {r : V × H} (h : strX op a b κ = some r) : ∃ v, binV op t (.str a) (.str b) = some v ∧ κ v = some r := by
  cases op
  case add =>
    have h' : catK a b (fun s => κ (.str s)) = some r := h
    obtain ⟨h1, h2⟩ := catK_some h'
    exact ⟨_, by simp only [binV, strOp, h1], h2⟩
  all_goals first
    | exact ⟨_, rfl, h⟩
    | cases h
theorem eqK_some {t : ETag} {x y : V} {κ : Bool → Ans} {r : V × H} (h : eqK t x y κ = some r) : ∃ b, eqTag t x y = some b ∧ κ b = some r := by
  unfold eqK at h
  split at h
  · exact ⟨_, ‹_›, h⟩
  · cases h
theorem eqTag_shape {t : ETag} {x y : V} {b : Bool} (h : eqTag t x y = some b) : (∀ k n k' m, x = .int k n → y = .int k' m → False) ∧ (∀ l m, x = .str l → y = .str m → False) := by
  constructor
  · rintro k n k' m rfl rfl; cases t <;> (first | cases h | (rename_i b; cases b <;> cases h))
  · rintro l m rfl rfl; cases t <;> (first | cases h | (rename_i b; cases b <;> cases h))
theorem binX_some {op : BinOp} {t : ETag} {x y : V} {κ : V → Ans} {r : V × H} (h : binX op t x y κ = some r) : ∃ v, binV op t x y = some v ∧ κ v = some r := by
  have eqs : ∀ (t : ETag), eqX op t x y κ = some r → ∃ v, binV op t x y = some v ∧ κ v = some r := by
    intro t h
    unfold eqX at h
    split at h
    · obtain ⟨b, h1, h2⟩ := eqK_some h
      obtain ⟨h3, h4⟩ := eqTag_shape h1
      refine ⟨_, ?_, h2⟩
      unfold binV
      split
      · exact (h3 _ _ _ _ rfl rfl).elim
      · exact (h4 _ _ rfl rfl).elim
      · simp only [h1]; rfl
    · obtain ⟨b, h1, h2⟩ := eqK_some h
      obtain ⟨h3, h4⟩ := eqTag_shape h1
      refine ⟨_, ?_, h2⟩
      unfold binV
      split
      · exact (h3 _ _ _ _ rfl rfl).elim
      · exact (h4 _ _ rfl rfl).elim
      · simp only [h1]; rfl
    · cases h
  cases t with
  | none =>
    simp only [binX] at h
    split at h
    · exact intX_some h
    · exact strX_some h
    · cases h
  | bool => exact eqs _ h
  | ptr => exact eqs _ h
  | slice => exact eqs _ h
  | map => exact eqs _ h
  | func => exact eqs _ h
  | iface b => exact eqs _ h
  | flat l => exact eqs _ h
theorem unX_some {op : UnOp} {x : V} {κ : V → Ans} {r : V × H} (h : unX op x κ = some r) : ∃ v, unV op x = some v ∧ κ v = some r := by
  unfold unX at h
  split at h
  · exact ⟨_, by simp only [unV, negF_eq], h⟩
  · exact ⟨_, rfl, h⟩
  · exact ⟨_, rfl, h⟩
  · cases h

/-! ### types -/
theorem rtInt_some {k : IntKind} {v : V} {κ : Int → Ans} {r : V × H} (h : rtInt k v κ = some r) : ∃ n, v = .int k n ∧ κ n = some r := by
  unfold rtInt at h
  split at h
  · split at h
    · rename_i hk; subst hk; exact ⟨_, rfl, h⟩
    · cases h
  · cases h
theorem rtBool_some {v : V} {κ : Bool → Ans} {r : V × H} (h : rtBool v κ = some r) : ∃ b, v = .bool b ∧ κ b = some r := by
  unfold rtBool at h
  split at h
  · exact ⟨_, rfl, h⟩
  · cases h
theorem rtStr_some {v : V} {κ : BS → Ans} {r : V × H} (h : rtStr v κ = some r) : ∃ s, v = .str s ∧ κ s = some r := by
  unfold rtStr at h
  split at h
  · exact ⟨_, rfl, h⟩
  · cases h
theorem rtPtr_some {v : V} {κ : Nat → Nat → Ans} {r : V × H} (h : rtPtr v κ = some r) : ∃ b o, v = .ptr b o ∧ κ b o = some r := by
  unfold rtPtr at h
  split at h
  · exact ⟨_, _, rfl, h⟩
  · cases h
theorem rtAgg_some {v : V} {κ : List V → Ans} {r : V × H} (h : rtAgg v κ = some r) : ∃ l, v = .agg l ∧ κ l = some r := by
  unfold rtAgg at h
  split at h
  · exact ⟨_, rfl, h⟩
  · cases h
theorem rtTup_some {v : V} {κ : List V → Ans} {r : V × H} (h : rtTup v κ = some r) : ∃ l, v = .tup l ∧ κ l = some r := by
  unfold rtTup at h
  split at h
  · exact ⟨_, rfl, h⟩
  · cases h
theorem rtCons_some {l : List V} {κ : V → List V → Ans} {r : V × H} (h : rtCons l κ = some r) : ∃ v m, l = v :: m ∧ κ v m = some r := by
  unfold rtCons at h
  split at h
  · exact ⟨_, _, rfl, h⟩
  · cases h
theorem rtNil_some {l : List V} {a : Ans} {r : V × H} (h : rtNil l a = some r) : l = [] ∧ a = some r := by
  unfold rtNil at h
  split at h
  · exact ⟨rfl, h⟩
  · cases h
theorem rtOne_some {v : V} {a : Ans} {r : V × H} (h : rtOne v a = some r) : v.one = true ∧ a = some r := by
  unfold rtOne at h
  split at h
  · exact ⟨‹_›, h⟩
  · cases h
mutual
theorem rt_some : ∀ (ty : XTy) (v : V) (κ : V → Ans) (r : V × H), rt ty v κ = some r → κ v = some r
  | .any, v, κ, r, h => by simpa only [rt] using h
  | .int k, v, κ, r, h => by simp only [rt] at h; obtain ⟨n, rfl, h2⟩ := rtInt_some h; exact h2
  | .bool, v, κ, r, h => by simp only [rt] at h; obtain ⟨n, rfl, h2⟩ := rtBool_some h; exact h2
  | .str, v, κ, r, h => by simp only [rt] at h; obtain ⟨n, rfl, h2⟩ := rtStr_some h; exact h2
  | .ptr, v, κ, r, h => by simp only [rt] at h; obtain ⟨b, o, rfl, h2⟩ := rtPtr_some h; exact h2
  | .one, v, κ, r, h => by simp only [rt] at h; exact (rtOne_some h).2
  | .agg ts, v, κ, r, h => by simp only [rt] at h; obtain ⟨l, rfl, h2⟩ := rtAgg_some h; exact rts_some ts l _ r h2
  | .tup ts, v, κ, r, h => by simp only [rt] at h; obtain ⟨l, rfl, h2⟩ := rtTup_some h; exact rts_some ts l _ r h2
theorem rts_some : ∀ (ts : List XTy) (l : List V) (κ : List V → Ans) (r : V × H), rts ts l κ = some r → κ l = some r
  | [], l, κ, r, h => by simp only [rts] at h; obtain ⟨rfl, h2⟩ := rtNil_some h; exact h2
  | t :: ts, l, κ, r, h => by
    simp only [rts] at h
    obtain ⟨v, m, rfl, h⟩ := rtCons_some h
    have := rt_some t v _ r h
    exact rts_some ts m _ r this
end
end Go.Og

set_option linter.unusedSimpArgs false
namespace Go.Og

def Live (e : Env) : Prop := ∀ t v, look e t = some v → v.live = true

theorem getK_some {e : Env} {x : AO} {κ : V → Ans} {r : V × H} (h : getK e x κ = some r) : ∃ v, opv e x = v ∧ (Live e → v.live = true) ∧ κ v = some r := by
  unfold getK at h
  split at h
  · rename_i v
    split at h
    · exact ⟨v, rfl, fun _ => ‹_›, h⟩
    · cases h
  · rename_i t
    cases hl : look e t with
    | none => rw [hl] at h; cases h
    | some v =>
      rw [hl] at h
      exact ⟨v, by simp only [opv, getE, hl], fun he => he t v hl, h⟩
theorem getsK_some {e : Env} : ∀ (l : List AO) (κ : List V → Ans) (r : V × H), getsK e l κ = some r → (Live e → (opvs e l).all V.live = true) ∧ κ (opvs e l) = some r
  | [], κ, r, h => ⟨fun _ => rfl, h⟩
  | x :: l, κ, r, h => by
    simp only [getsK] at h
    obtain ⟨v, hv, hl, h⟩ := getK_some h
    obtain ⟨h1, h2⟩ := getsK_some l _ r h
    subst hv
    exact ⟨fun he => by simp only [opvs, List.map_cons, List.all_cons, hl he, Bool.true_and]; exact h1 he, h2⟩
theorem getoK_some {e : Env} {x : Option AO} {κ : Option V → Ans} {r : V × H} (h : getoK e x κ = some r) : κ (opvo e x) = some r := by
  cases x with
  | none => exact h
  | some x =>
    obtain ⟨v, hv, _, h⟩ := getK_some h
    subst hv; exact h
theorem partsK_some {e : Env} : ∀ (l : List (Nat × Nat × AO)) (κ : List (Nat × Nat × V) → Ans) (r : V × H), partsK e l κ = some r → κ (parts e l) = some r
  | [], κ, r, h => h
  | (o, s, x) :: l, κ, r, h => by
    simp only [partsK] at h
    obtain ⟨v, hv, _, h⟩ := getK_some h
    have := partsK_some l _ r h
    subst hv; exact this
theorem nthK_some {l : List V} {n : Nat} {κ : V → Ans} {r : V × H} (h : nthK l n κ = some r) : ∃ v, l[n]? = some v ∧ κ v = some r := by
  unfold nthK at h
  rw [nthF_eq] at h
  split at h
  · exact ⟨_, ‹_›, h⟩
  · cases h
theorem subK_some {l : List V} {off n : Nat} {κ : List V → Ans} {r : V × H} (h : subK l off n κ = some r) : Nat.ble (off + n) l.length = true ∧ κ ((l.drop off).take n) = some r := by
  unfold subK at h
  split at h
  · exact ⟨‹_›, h⟩
  · cases h
theorem rdK_some {E : List (Nat × Blk)} {σ : H} {b : Nat} {κ : List V → Ans} {r : V × H} (h : rdK E σ b κ = some r) : ∃ l, rd E σ b = some l ∧ κ l = some r := by
  unfold rdK at h
  rw [lookF_eq] at h
  unfold rd
  split at h
  · rename_i hb; rw [hb]; exact ⟨_, rfl, h⟩
  · cases h
  · rename_i hb
    rw [lookF_eq] at h
    rw [hb]
    split at h
    · rename_i he; rw [he]; exact ⟨_, rfl, h⟩
    · cases h
theorem boundK_some {o : Option V} {d : Nat} {κ : Nat → Ans} {r : V × H} (h : boundK o d κ = some r) : ∃ n, bnd o d = some n ∧ κ n = some r := by
  unfold boundK at h
  split at h
  · exact ⟨d, rfl, h⟩
  · split at h
    · obtain ⟨h1, h2⟩ := nnK_some h
      exact ⟨_, by simp only [bnd, if_pos h1], h2⟩
    · cases h
theorem slenK_some {v : V} {κ : Nat → Ans} {r : V × H} (h : slenK v κ = some r) : ∃ n : Nat, κ n = some r ∧ ∀ e x, opv e x = v → aopP (.len false x) e = some (.int .i64 n) := by
  unfold slenK at h
  split at h
  · exact ⟨0, h, fun e x hx => by simp only [aopP, hx]; rfl⟩
  · exact ⟨_, h, fun e x hx => by simp only [aopP, hx]⟩
  · exact ⟨0, h, fun e x hx => by simp only [aopP, hx]; rfl⟩
  · cases h
theorem srcK_some {E : List (Nat × Blk)} {σ : H} {esz : Nat} {v : V} {κ : Nat → List V → Ans} {r : V × H} (h : srcK E σ esz v κ = some r) : ∃ n l, srcCells E σ esz v = some (n, l) ∧ κ n l = some r := by
  unfold srcK at h
  split at h
  · exact ⟨_, _, rfl, h⟩
  · exact ⟨_, _, rfl, h⟩
  · obtain ⟨l, h1, h2⟩ := rdK_some h
    obtain ⟨h3, h4⟩ := subK_some h2
    exact ⟨_, _, by simp only [srcCells, rdN, h1, h3, if_true]; rfl, h4⟩
  · split at h
    · rename_i he
      rw [Nat.beq_eq] at he
      exact ⟨_, _, by simp only [srcCells, if_pos he], h⟩
    · cases h
  · cases h

/-- σ2 is σ1, but for what is in it no more. -/
structure SubH (σ2 σ1 : H) : Prop where
  next : σ2.next = σ1.next
  sub : ∀ k b, look σ2.bl k = some b → look σ1.bl k = some b
theorem SubH.refl (σ : H) : SubH σ σ := ⟨rfl, fun _ _ h => h⟩

theorem look_setF (σ : H) (b : Nat) (c : Blk) (k : Nat) : look (setF σ b c).bl k = if b = k then some c else look σ.bl k := by
  simp only [setF, look, Nat.beq_eq]
  by_cases h : b = k
  · rw [if_pos h, if_pos h]
  · rw [if_neg h, if_neg h, look_drop1 _ _ _ h]
theorem setF_sub {σ : H} {b : Nat} {c d : Blk} (h : look σ.bl b = some d) : SubH (setF σ b c) (σ.set b c) := by
  refine ⟨rfl, fun k u hk => ?_⟩
  rw [look_setF] at hk
  simp only [H.set, look_repl]
  by_cases he : b = k
  · subst he; rw [if_pos rfl] at hk; rw [if_pos rfl, h]; exact hk
  · rw [if_neg he] at hk; rw [if_neg he]; exact hk
theorem stK_some {n b off : Nat} {v : V} {σ : H} {κ : H → Ans} {r : V × H} (h : stK n b off v σ κ = some r) :
    ∃ σ1 σ2, κ σ2 = some r ∧ SubH σ2 σ1 ∧ ∀ (E : List (Nat × Blk)) (e : Env) (x y : AO), opv e x = .ptr b off → opv e y = v → aopK E (.store n x y) e σ = some (.dead, σ1) := by
  unfold stK at h
  rw [lookF_eq] at h
  split at h
  · rename_i l hb
    obtain ⟨hc, h⟩ := chk_some h
    refine ⟨_, _, h, setF_sub hb, fun E e x y hx hy => ?_⟩
    have hc' : (Nat.beq v.cells.length n && Nat.ble (off + n) l.length && allOne v.cells) = true := hc
    simp only [aopK, hx, hy, hb]
    rw [if_pos hc']
  · cases h
theorem appK_some {E : List (Nat × Blk)} {esz bytes : Nat} {s x : V} {σ : H} {κ : V → H → Ans} {r : V × H} (h : appK E esz bytes s x σ κ = some r) :
    ∃ v σ1, appendV E esz bytes s x σ = some (v, σ1) ∧ κ v σ1 = some r := by
  unfold appK at h
  obtain ⟨n, new, h1, h⟩ := srcK_some h
  split at h
  · rename_i b len e
    split at h
    · exact ⟨_, _, by simp only [appendV, h1]; rfl, h⟩
    · rename_i hn
      split at h
      · rename_i l hb
        rw [lookF_eq] at hb
        obtain ⟨hc, h⟩ := chk_some h
        rw [forceD_eq] at h
        refine ⟨_, _, ?_, h⟩
        simp only [appendV, h1]
        rw [if_neg (by omega), hb]
        simp only
        rw [if_pos hc]
        rfl
      · cases h
  · obtain ⟨v, σ1, h2, h3⟩ := callK_some h
    exact ⟨v, σ1, h2, h3⟩

theorem fillK_some {l : List (Nat × Nat × V)} {z : List V} {κ : List V → Ans} {r : V × H} (h : fillK l z κ = some r) : ∃ l', fillA l z = some l' ∧ κ l' = some r := by
  unfold fillK at h
  split at h
  · exact ⟨_, ‹_›, h⟩
  · cases h
theorem valX_ok {E : List (Nat × Blk)} {D : Den} {id nx : Nat} {o : AOp} {e : Env} {σ : H} {κ : V → H → Ans} {r : V × H} (h : valX E D id nx o e σ κ = some r) :
    (o.cls = .p ∧ ∃ v, (Live e → aopP o e = some v) ∧ κ v σ = some r) ∨ (o.cls = .l ∧ ∃ v, (Live e → aopL E o e σ = some v) ∧ κ v σ = some r) ∨
    (o.cls = .a ∧ ∃ v b, (Live e → aopA o e id = some (v, b)) ∧ κ v ⟨nx, (id, b) :: σ.bl⟩ = some r) ∨
    (o.cls = .k ∧ ∃ v σ1 σ2, (Live e → den1 E D o e σ = some (v, σ1)) ∧ SubH σ2 σ1 ∧ κ v σ2 = some r) := by
  have P : ∀ {v}, o.cls = .p → (Live e → aopP o e = some v) → κ v σ = some r → (o.cls = .p ∧ ∃ v, (Live e → aopP o e = some v) ∧ κ v σ = some r) ∨ (o.cls = .l ∧ ∃ v, (Live e → aopL E o e σ = some v) ∧ κ v σ = some r) ∨
    (o.cls = .a ∧ ∃ v b, (Live e → aopA o e id = some (v, b)) ∧ κ v ⟨nx, (id, b) :: σ.bl⟩ = some r) ∨
    (o.cls = .k ∧ ∃ v σ1 σ2, (Live e → den1 E D o e σ = some (v, σ1)) ∧ SubH σ2 σ1 ∧ κ v σ2 = some r) := fun h1 h2 h3 => .inl ⟨h1, _, h2, h3⟩
  have L : ∀ {v}, o.cls = .l → (Live e → aopL E o e σ = some v) → κ v σ = some r → (o.cls = .p ∧ ∃ v, (Live e → aopP o e = some v) ∧ κ v σ = some r) ∨ (o.cls = .l ∧ ∃ v, (Live e → aopL E o e σ = some v) ∧ κ v σ = some r) ∨
    (o.cls = .a ∧ ∃ v b, (Live e → aopA o e id = some (v, b)) ∧ κ v ⟨nx, (id, b) :: σ.bl⟩ = some r) ∨
    (o.cls = .k ∧ ∃ v σ1 σ2, (Live e → den1 E D o e σ = some (v, σ1)) ∧ SubH σ2 σ1 ∧ κ v σ2 = some r) := fun h1 h2 h3 => .inr (.inl ⟨h1, _, h2, h3⟩)
  have A : ∀ {v b}, o.cls = .a → (Live e → aopA o e id = some (v, b)) → κ v ⟨nx, (id, b) :: σ.bl⟩ = some r → (o.cls = .p ∧ ∃ v, (Live e → aopP o e = some v) ∧ κ v σ = some r) ∨ (o.cls = .l ∧ ∃ v, (Live e → aopL E o e σ = some v) ∧ κ v σ = some r) ∨
    (o.cls = .a ∧ ∃ v b, (Live e → aopA o e id = some (v, b)) ∧ κ v ⟨nx, (id, b) :: σ.bl⟩ = some r) ∨
    (o.cls = .k ∧ ∃ v σ1 σ2, (Live e → den1 E D o e σ = some (v, σ1)) ∧ SubH σ2 σ1 ∧ κ v σ2 = some r) := fun h1 h2 h3 => .inr (.inr (.inl ⟨h1, _, _, h2, h3⟩))
  have K : ∀ {v σ1 σ2}, o.cls = .k → (Live e → den1 E D o e σ = some (v, σ1)) → SubH σ2 σ1 → κ v σ2 = some r → (o.cls = .p ∧ ∃ v, (Live e → aopP o e = some v) ∧ κ v σ = some r) ∨ (o.cls = .l ∧ ∃ v, (Live e → aopL E o e σ = some v) ∧ κ v σ = some r) ∨
    (o.cls = .a ∧ ∃ v b, (Live e → aopA o e id = some (v, b)) ∧ κ v ⟨nx, (id, b) :: σ.bl⟩ = some r) ∨
    (o.cls = .k ∧ ∃ v σ1 σ2, (Live e → den1 E D o e σ = some (v, σ1)) ∧ SubH σ2 σ1 ∧ κ v σ2 = some r) := fun h1 h2 h3 h4 => .inr (.inr (.inr ⟨h1, _, _, _, h2, h3, h4⟩))
  cases o with
  | mov x =>
    simp only [valX] at h
    obtain ⟨v, hv, hl, h⟩ := getK_some h
    exact P rfl (fun he => by simp only [aopP, hv, hl he, if_true]) h
  | bin op t x y =>
    simp only [valX] at h
    obtain ⟨v, hv, hl, h⟩ := getK_some h
    obtain ⟨u, hu, _, h⟩ := getK_some h
    obtain ⟨w, hw, h⟩ := binX_some h
    exact P rfl (fun he => by simp only [aopP, hv, hu, hw]) h
  | un op x =>
    simp only [valX] at h
    obtain ⟨v, hv, hl, h⟩ := getK_some h
    obtain ⟨w, hw, h⟩ := unX_some h
    exact P rfl (fun he => by simp only [aopP, hv, hw]) h
  | conv t x =>
    cases t with
    | toInt k =>
      simp only [valX] at h
      obtain ⟨v, hv, hl, h⟩ := getK_some h
      split at h
      · rw [wrapF_eq] at h; exact P rfl (fun he => by simp only [aopP, hv]) h
      · cases h
    | same =>
      simp only [valX] at h
      obtain ⟨v, hv, hl, h⟩ := getK_some h
      obtain ⟨s, rfl, h9⟩ := rtStr_some h
      replace h := h9
      exact P rfl (fun he => by simp only [aopP, hv]) h
    | toBytes el =>
      simp only [valX] at h
      obtain ⟨v, hv, hl, h⟩ := getK_some h
      obtain ⟨s, rfl, h9⟩ := rtStr_some h
      replace h := h9
      obtain ⟨hc, h⟩ := chk_some h
      exact A rfl (fun he => by simp only [aopA, hv, hc, if_true]) h
    | toStr =>
      simp only [valX] at h
      obtain ⟨v, hv, hl, h⟩ := getK_some h
      unfold toStrK at h
      split at h
      · cases h
      · rename_i hns
        obtain ⟨n, l, h1, h2⟩ := srcK_some h
        split at h2
        · rename_i s hs
          have hnot : (opv e x).isStr = false := by
            rw [hv]
            cases v <;> first | rfl | (exact (hns _ rfl).elim)
          refine L rfl (fun he => ?_) h2
          simp only [aopL, hnot]
          rw [hv, h1]
          simp [hs]
        · cases h2
    | bad => simp only [valX] at h; cases h
  | nilck x =>
    simp only [valX] at h
    obtain ⟨v, hv, hl, h⟩ := getK_some h
    obtain ⟨b, o, rfl, h9⟩ := rtPtr_some h
    replace h := h9
    exact P rfl (fun he => by simp only [aopP, hv]) h
  | faddr off x =>
    simp only [valX] at h
    obtain ⟨v, hv, hl, h⟩ := getK_some h
    obtain ⟨b, o, rfl, h9⟩ := rtPtr_some h
    replace h := h9
    exact P rfl (fun he => by simp only [aopP, hv]; rfl) h
  | field off n x =>
    cases n with
    | none =>
      simp only [valX] at h
      obtain ⟨v, hv, hl, h⟩ := getK_some h
      obtain ⟨l, rfl, h9⟩ := rtAgg_some h
      replace h := h9
      obtain ⟨u, hu, h⟩ := nthK_some h
      exact P rfl (fun he => by simp only [aopP, hv, hu]) h
    | some n =>
      simp only [valX] at h
      obtain ⟨v, hv, hl, h⟩ := getK_some h
      obtain ⟨l, rfl, h9⟩ := rtAgg_some h
      replace h := h9
      obtain ⟨hu, h⟩ := subK_some h
      exact P rfl (fun he => by simp only [aopP, hv, hu, if_true]) h
  | extract i x =>
    simp only [valX] at h
    obtain ⟨v, hv, hl, h⟩ := getK_some h
    obtain ⟨l, rfl, h9⟩ := rtTup_some h
    replace h := h9
    obtain ⟨u, hu, h⟩ := nthK_some h
    exact P rfl (fun he => by simp only [aopP, hv, hu]) h
  | iaddrS esz x i =>
    simp only [valX] at h
    obtain ⟨v, hv, hl, h⟩ := getK_some h
    obtain ⟨u, hu, _, h⟩ := getK_some h
    split at h
    · unfold iaddrSK at h
      split at h
      · obtain ⟨h1, h⟩ := nnK_some h
        obtain ⟨h2, h⟩ := chk_some h
        simp only [Nat.blt_eq] at h2
        exact P rfl (fun he => by simp only [aopP, hv, hu]; rw [if_pos ⟨h1, by omega⟩]; rfl) h
      · cases h
    · cases h
  | iaddrA len esz x i =>
    simp only [valX] at h
    obtain ⟨v, hv, hl, h⟩ := getK_some h
    obtain ⟨u, hu, _, h⟩ := getK_some h
    split at h
    · obtain ⟨b, o, rfl, h9⟩ := rtPtr_some h
      replace h := h9
      obtain ⟨h1, h⟩ := nnK_some h
      obtain ⟨h2, h⟩ := chk_some h
      simp only [Nat.blt_eq] at h2
      exact P rfl (fun he => by simp only [aopP, hv, hu]; rw [if_pos ⟨h1, by omega⟩]; rfl) h
    · cases h
  | idxStr x i =>
    simp only [valX] at h
    obtain ⟨v, hv, hl, h⟩ := getK_some h
    obtain ⟨u, hu, _, h⟩ := getK_some h
    obtain ⟨s, rfl, h9⟩ := rtStr_some h
    replace h := h9
    split at h
    · obtain ⟨h1, h⟩ := nnK_some h
      obtain ⟨h2, h⟩ := chk_some h
      exact P rfl (fun he => by simp only [aopP, hv, hu]; rw [if_pos h1, if_pos h2]; rfl) h
    · cases h
  | len b x =>
    cases b with
    | true =>
      simp only [valX] at h
      obtain ⟨v, hv, hl, h⟩ := getK_some h
      obtain ⟨s, rfl, h9⟩ := rtStr_some h
      replace h := h9
      exact P rfl (fun he => by simp only [aopP, hv]; rfl) h
    | false =>
      simp only [valX] at h
      obtain ⟨v, hv, hl, h⟩ := getK_some h
      obtain ⟨n, h1, h2⟩ := slenK_some h
      exact P rfl (fun _ => h2 e x hv) h1
  | lenC n => simp only [valX] at h; exact P rfl (fun he => by simp only [aopP]; rfl) h
  | sliceStr x lo hi =>
    simp only [valX] at h
    obtain ⟨v, hv, hl, h⟩ := getK_some h
    have h := getoK_some h
    have h := getoK_some h
    obtain ⟨s, rfl, h9⟩ := rtStr_some h
    replace h := h9
    unfold sliceStrX at h
    obtain ⟨a, ha, h⟩ := boundK_some h
    obtain ⟨b, hb, h⟩ := boundK_some h
    obtain ⟨hc, h⟩ := chk_some h
    exact P rfl (fun he => by simp only [aopP, hv, sliceStrV, ha, hb, hc, if_true]) h
  | sliceSl esz x lo hi mx =>
    simp only [valX] at h
    obtain ⟨v, hv, hl, h⟩ := getK_some h
    have h := getoK_some h
    have h := getoK_some h
    have h := getoK_some h
    obtain ⟨u, hu, h⟩ := gK_some h
    exact P rfl (fun he => by simp only [aopP, hv, hu]) h
  | sliceArr n esz x lo hi mx =>
    simp only [valX] at h
    obtain ⟨v, hv, hl, h⟩ := getK_some h
    have h := getoK_some h
    have h := getoK_some h
    have h := getoK_some h
    obtain ⟨u, hu, h⟩ := gK_some h
    exact P rfl (fun he => by simp only [aopP, hv, hu]) h
  | mkifc t x =>
    simp only [valX] at h
    obtain ⟨v, hv, hl, h⟩ := getK_some h
    exact P rfl (fun he => by simp only [aopP, hv, hl he, if_true]) h
  | mkfn f a c =>
    simp only [valX] at h
    obtain ⟨h1, h⟩ := getsK_some _ _ _ h
    obtain ⟨h2, h⟩ := getsK_some _ _ _ h
    exact P rfl (fun he => by simp only [aopP, h1 he, h2 he, Bool.and_self, if_true]) h
  | build z ps =>
    simp only [valX] at h
    have h := partsK_some _ _ _ h
    obtain ⟨l', hf, h⟩ := fillK_some h
    exact P rfl (fun he => by simp only [aopP, hf]) h
  | cap x =>
    simp only [valX] at h
    obtain ⟨v, hv, hl, h⟩ := getK_some h
    split at h
    · exact P rfl (fun he => by simp only [aopP, hv]) h
    · exact P rfl (fun he => by simp only [aopP, hv]; rfl) h
    · cases h
  | min x l =>
    simp only [valX] at h
    obtain ⟨v, hv, hl, h⟩ := getK_some h
    obtain ⟨_, h⟩ := getsK_some _ _ _ h
    obtain ⟨u, hu, h⟩ := gK_some h
    split at h
    · exact P rfl (fun he => by simp only [aopP, hv, hu]) h
    · cases h
  | max x l =>
    simp only [valX] at h
    obtain ⟨v, hv, hl, h⟩ := getK_some h
    obtain ⟨_, h⟩ := getsK_some _ _ _ h
    obtain ⟨u, hu, h⟩ := gK_some h
    split at h
    · exact P rfl (fun he => by simp only [aopP, hv, hu]) h
    · cases h
  | load n x =>
    cases n with
    | none =>
      simp only [valX] at h
      obtain ⟨v, hv, hl, h⟩ := getK_some h
      obtain ⟨b, o, rfl, h9⟩ := rtPtr_some h
      replace h := h9
      obtain ⟨l, hr, h⟩ := rdK_some h
      obtain ⟨u, hu, h⟩ := nthK_some h
      exact L rfl (fun he => by simp only [aopL, hv, hr, hu]) h
    | some n =>
      simp only [valX] at h
      obtain ⟨v, hv, hl, h⟩ := getK_some h
      obtain ⟨b, o, rfl, h9⟩ := rtPtr_some h
      replace h := h9
      obtain ⟨l, hr, h⟩ := rdK_some h
      obtain ⟨hu, h⟩ := subK_some h
      exact L rfl (fun he => by simp only [aopL, hv, rdN, hr, hu, if_true]) h
  | alloc el z => simp only [valX] at h; exact A rfl (fun he => by simp only [aopA]) h
  | box el x =>
    simp only [valX] at h
    obtain ⟨v, hv, hl, h⟩ := getK_some h
    obtain ⟨hc, h⟩ := chk_some h
    exact A rfl (fun he => by simp only [aopA, hv, hl he, hc, Bool.and_self, if_true]) h
  | buildSlice el n z ps =>
    simp only [valX] at h
    have h := partsK_some _ _ _ h
    obtain ⟨l', hf, h⟩ := fillK_some h
    obtain ⟨hc, h⟩ := chk_some h
    exact A rfl (fun he => by simp only [aopA, hf, hc, if_true]) h
  | mkslice el esz bytes z len cap =>
    simp only [valX] at h
    obtain ⟨v, hv, _, h⟩ := getK_some h
    obtain ⟨u, hu, _, h⟩ := getK_some h
    split at h
    · obtain ⟨h1, h⟩ := nnK_some h
      obtain ⟨h2, h⟩ := nnK_some h
      obtain ⟨hc, h⟩ := chk_some h
      simp only [Bool.and_eq_true, Nat.ble_eq] at hc
      obtain ⟨⟨c1, c2⟩, c3⟩ := hc
      refine A rfl (fun he => ?_) h
      simp only [aopA, hv, hu]
      have hcb : ∀ c : Int, 0 ≤ c → c * bytes = ((c.toNat * bytes : Nat) : Int) := fun c h2 => by rw [Int.natCast_mul, Int.toNat_of_nonneg h2]
      rw [if_pos ⟨h1, by omega, by rw [hcb _ h2]; omega, by omega⟩]
    · cases h
  | store n x v =>
    simp only [valX] at h
    obtain ⟨p, hp, _, h⟩ := getK_some h
    obtain ⟨u, hu, _, h⟩ := getK_some h
    obtain ⟨b, o, rfl, h9⟩ := rtPtr_some h
    replace h := h9
    obtain ⟨σ1, σ2, h1, h2, h3⟩ := stK_some h
    exact K rfl (fun he => by simp only [den1, aop, AOp.cls]; exact h3 E e x v hp hu) h2 h1
  | append el esz bytes s x =>
    simp only [valX] at h
    obtain ⟨p, hp, _, h⟩ := getK_some h
    obtain ⟨u, hu, _, h⟩ := getK_some h
    obtain ⟨v, σ1, h1, h2⟩ := appK_some h
    exact K rfl (fun he => by simp only [den1, aop, AOp.cls, aopK, hp, hu]; exact h1) (SubH.refl _) h2
  | copy esz d s =>
    simp only [valX] at h
    obtain ⟨p, hp, _, h⟩ := getK_some h
    obtain ⟨u, hu, _, h⟩ := getK_some h
    obtain ⟨v, σ1, h1, h2⟩ := callK_some h
    exact K rfl (fun he => by simp only [den1, aop, AOp.cls]; rw [copyV_eq, hp, hu]; exact h1) (SubH.refl _) h2
  | call f args =>
    simp only [valX] at h
    obtain ⟨h1, h⟩ := getsK_some _ _ _ h
    obtain ⟨v, σ1, h2, h3⟩ := callK_some h
    exact K rfl (fun he => by simp only [den1, h1 he, if_true]; exact h2) (SubH.refl _) h3
  | callv f args =>
    simp only [valX] at h
    obtain ⟨p, hp, _, h⟩ := getK_some h
    obtain ⟨h1, h⟩ := getsK_some _ _ _ h
    unfold callvK at h
    split at h
    · obtain ⟨v, σ1, h2, h3⟩ := callK_some h
      exact K rfl (fun he => by simp only [den1, hp, h1 he, if_true]; exact h2) (SubH.refl _) h3
    · cases h
  | mkmap => simp only [valX] at h; exact A rfl (fun he => by simp only [aopA]) h
  | lookup t z m x =>
    simp only [valX] at h
    obtain ⟨p, hp, _, h⟩ := getK_some h
    obtain ⟨u, hu, _, h⟩ := getK_some h
    obtain ⟨v, hv, h⟩ := gK_some h
    exact L rfl (fun he => by simp only [aopL, hp, hu]; exact hv) h
  | mapset t m k v =>
    simp only [valX] at h
    obtain ⟨p, hp, _, h⟩ := getK_some h
    obtain ⟨u, hu, _, h⟩ := getK_some h
    obtain ⟨x, hx, _, h⟩ := getK_some h
    obtain ⟨y, σ1, h1, h2⟩ := callK_some h
    exact K rfl (fun he => by simp only [den1, aop, AOp.cls, aopK, hp, hu, hx]; exact h1) (SubH.refl _) h2
  | alloc0 el => simp only [valX] at h; exact A rfl (fun he => by simp only [aopA]) h
  | box0 el x =>
    simp only [valX] at h
    obtain ⟨v, hv, hl, h⟩ := getK_some h
    split at h
    · exact A rfl (fun he => by simp only [aopA, hv]) h
    · cases h
  | load0 x =>
    simp only [valX] at h
    obtain ⟨v, hv, hl, h⟩ := getK_some h
    obtain ⟨b, o, rfl, h9⟩ := rtPtr_some h
    replace h := h9
    exact P rfl (fun he => by simp only [aopP, hv]) h
  | store0 x v =>
    simp only [valX] at h
    obtain ⟨p, hp, _, h⟩ := getK_some h
    obtain ⟨u, hu, _, h⟩ := getK_some h
    split at h
    · exact K rfl (fun he => by simp only [den1, aop, AOp.cls, aopK, hp, hu]) (SubH.refl _) h
    · cases h
  | faddr0 t x =>
    simp only [valX] at h
    obtain ⟨p, hp, _, h⟩ := getK_some h
    obtain ⟨v, hv, h⟩ := gK_some h
    exact L rfl (fun he => by simp only [aopL, hp]; exact hv) h
  | idxArr n esz s x i =>
    cases s with
    | none =>
      simp only [valX] at h
      obtain ⟨p, hp, _, h⟩ := getK_some h
      obtain ⟨u, hu, _, h⟩ := getK_some h
      obtain ⟨l, rfl, h9⟩ := rtAgg_some h
      replace h := h9
      split at h
      · obtain ⟨h1, h⟩ := nnK_some h
        obtain ⟨hc, h⟩ := chk_some h
        obtain ⟨v, hv, h⟩ := nthK_some h
        simp only [Nat.blt_eq] at hc
        exact P rfl (fun he => by simp only [aopP, hp, hu, fieldV]; rw [if_pos ⟨h1, by omega⟩]; exact hv) h
      · cases h
    | some s =>
      simp only [valX] at h
      obtain ⟨p, hp, _, h⟩ := getK_some h
      obtain ⟨u, hu, _, h⟩ := getK_some h
      obtain ⟨l, rfl, h9⟩ := rtAgg_some h
      replace h := h9
      split at h
      · obtain ⟨h1, h⟩ := nnK_some h
        obtain ⟨hc, h⟩ := chk_some h
        obtain ⟨hv, h⟩ := subK_some h
        simp only [Nat.blt_eq] at hc
        exact P rfl (fun he => by simp only [aopP, hp, hu, fieldV]; rw [if_pos ⟨h1, by omega⟩]; simp only [Nat.mul_eq] at hv ⊢; rw [if_pos hv]) h
      · cases h
  | pick c a b => simp only [valX] at h; cases h
  | bad => simp only [valX] at h; cases h
end Go.Og

set_option linter.unusedSimpArgs false
namespace Go.Og

inductive Out where
  | val (v : V) (r : Rg) (σ : H)
  | mark (m off : Nat)

/-- What an operation leaves. -/
inductive Step (E : List (Nat × Blk)) (D : Den) (pw : Bool) (id nx : Nat) (o : AOp) (e : Env) (q : Qs) (r : Rg) (σ : H) : Out → Prop where
  | p (v : V) (hc : o.cls = .p) (h : Live e → aopP o e = some v) : Step E D pw id nx o e q r σ (.val v r σ)
  | l (v : V) (hc : o.cls = .l) (h : Live e → aopL E o e σ = some v) : Step E D pw id nx o e q r σ (.val v r σ)
  | a (v : V) (b : Blk) (hc : o.cls = .a) (h : Live e → aopA o e id = some (v, b)) : Step E D pw id nx o e q r σ (.val v r ⟨nx, (id, b) :: σ.bl⟩)
  | k (v : V) (σ1 σ2 : H) (hc : o.cls = .k) (h : Live e → den1 E D o e σ = some (v, σ1)) (hs : SubH σ2 σ1) : Step E D pw id nx o e q r σ (.val v r σ2)
  | mv (x : AO) (m off : Nat) (ho : o = .mov x ∨ o = .nilck x) (hm : markX q x = some (m, off)) : Step E D pw id nx o e q r σ (.mark m off)
  | fa (d : Nat) (x : AO) (m off : Nat) (ho : o = .faddr d x) (hm : markX q x = some (m, off)) : Step E D pw id nx o e q r σ (.mark m (off + d))
  | ld (x : AO) (m off : Nat) (l : List V) (v : V) (ho : o = .load none x) (hm : markX q x = some (m, off)) (hl : look r m = some l) (h : l[off]? = some v) : Step E D pw id nx o e q r σ (.val v r σ)
  | ldn (n : Nat) (x : AO) (m off : Nat) (l : List V) (ho : o = .load (some n) x) (hm : markX q x = some (m, off)) (hl : look r m = some l) (h : off + n ≤ l.length) : Step E D pw id nx o e q r σ (.val (.agg ((l.drop off).take n)) r σ)
  | st (n : Nat) (x y : AO) (m off : Nat) (l cs : List V) (u : V) (hw : pw = true) (ho : o = .store n x y) (hm : markX q x = some (m, off)) (hl : look r m = some l) (hn : markX q y = none) (hu : opv e y = u) (hlu : Live e → u.live = true)
      (hcs : cs = u.cells) (h1 : allOne cs = true) (hlen : cs.length = n) (h : off + n ≤ l.length) : Step E D pw id nx o e q r σ (.val .dead (repl r m (spl l off cs)) σ)

theorem one_cells {v : V} (h : v.one = true) : v.cells = [v] := by cases v <;> first | rfl | cases h
theorem cellsK_some {ty : XTy} {v : V} {κ : List V → Ans} {r : V × H} (h : cellsK ty v κ = some r) : allOne v.cells = true ∧ κ v.cells = some r := by
  unfold cellsK at h
  split at h
  · obtain ⟨l, rfl, h2⟩ := rtAgg_some h
    obtain ⟨hc, h2⟩ := chk_some h2
    exact ⟨hc, h2⟩
  · obtain ⟨h1, h2⟩ := rtOne_some h
    rw [one_cells h1]
    exact ⟨by simp [allOne, h1], h2⟩

theorem rt_live {ty : XTy} {v : V} {κ : V → Ans} {r : V × H} (h : rt ty v κ = some r) (hk : ty.known = true) : v.live = true := by
  cases ty with
  | any => cases hk
  | int k => simp only [rt] at h; obtain ⟨n, rfl, _⟩ := rtInt_some h; rfl
  | bool => simp only [rt] at h; obtain ⟨n, rfl, _⟩ := rtBool_some h; rfl
  | str => simp only [rt] at h; obtain ⟨n, rfl, _⟩ := rtStr_some h; rfl
  | ptr => simp only [rt] at h; obtain ⟨b, o, rfl, _⟩ := rtPtr_some h; rfl
  | one => simp only [rt] at h; have := (rtOne_some h).1; cases v <;> first | rfl | cases this
  | agg ts => simp only [rt] at h; obtain ⟨l, rfl, _⟩ := rtAgg_some h; rfl
  | tup ts => simp only [rt] at h; obtain ⟨l, rfl, _⟩ := rtTup_some h; rfl

/-- The answer of an operation is one that it leaves; what is put into a temporary is alive, if the class is one that may leave what is dead. -/
theorem opX_some {E : List (Nat × Blk)} {D : Den} {pw : Bool} {id nx : Nat} {o : AOp} {ty : XTy} {e : Env} {q : Qs} {r : Rg} {σ : H} {κ : V → Rg → H → Ans} {κm : Nat → Nat → Ans} {res : V × H}
    (h : opX E D pw id nx o ty e q r σ κ κm = some res) :
    ∃ out, Step E D pw id nx o e q r σ out ∧ (match out with
      | .val v r' σ' => κ v r' σ' = some res ∧ ((∃ n x y, o = .store n x y) ∨ o.cls ≠ .k ∨ ty.known = false ∨ v.live = true)
      | .mark m off => κm m off = some res) := by
  have gen : (valX E D id nx o e σ fun v σ' => rt ty v fun v' => κ v' r σ') = some res → ∃ out, Step E D pw id nx o e q r σ out ∧ (match out with
      | .val v r' σ' => κ v r' σ' = some res ∧ ((∃ n x y, o = .store n x y) ∨ o.cls ≠ .k ∨ ty.known = false ∨ v.live = true)
      | .mark m off => κm m off = some res) := by
    intro h
    rcases valX_ok h with ⟨hc, v, h1, h2⟩ | ⟨hc, v, h1, h2⟩ | ⟨hc, v, b, h1, h2⟩ | ⟨hc, v, σ1, σ2, h1, h2, h3⟩
    · exact ⟨_, .p v hc h1, rt_some _ _ _ _ h2, .inr (.inl (by rw [hc]; intro h; cases h))⟩
    · exact ⟨_, .l v hc h1, rt_some _ _ _ _ h2, .inr (.inl (by rw [hc]; intro h; cases h))⟩
    · exact ⟨_, .a v b hc h1, rt_some _ _ _ _ h2, .inr (.inl (by rw [hc]; intro h; cases h))⟩
    · refine ⟨_, .k v σ1 σ2 hc h1 h2, rt_some _ _ _ _ h3, ?_⟩
      cases hk : ty.known with
      | false => exact .inr (.inr (.inl rfl))
      | true => exact .inr (.inr (.inr (rt_live h3 hk)))
  have np : ∀ {c : Cls}, c = .p ∨ c = .l → c ≠ .k := by rintro c (rfl | rfl) <;> (intro h; cases h)
  cases o with
  | mov x =>
    simp only [opX] at h
    split at h
    · rename_i m off hm; exact ⟨_, .mv x m off (.inl rfl) hm, h⟩
    · exact gen h
  | nilck x =>
    simp only [opX] at h
    split at h
    · rename_i m off hm; exact ⟨_, .mv x m off (.inr rfl) hm, h⟩
    · exact gen h
  | faddr d x =>
    simp only [opX] at h
    split at h
    · rename_i m off hm; exact ⟨_, .fa d x m off rfl hm, h⟩
    · exact gen h
  | load n x =>
    cases n with
    | none =>
      simp only [opX] at h
      split at h
      · rename_i m off hm
        split at h
        · rename_i l hl
          obtain ⟨v, hv, h⟩ := nthK_some h
          exact ⟨_, .ld x m off l v rfl hm hl hv, rt_some _ _ _ _ h, .inr (.inl (by intro h; cases h))⟩
        · cases h
      · exact gen h
    | some n =>
      simp only [opX] at h
      split at h
      · rename_i m off hm
        split at h
        · rename_i l hl
          obtain ⟨hv, h⟩ := subK_some h
          exact ⟨_, .ldn n x m off l rfl hm hl (by simpa using hv), rt_some _ _ _ _ h, .inr (.inl (by intro h; cases h))⟩
        · cases h
      · exact gen h
  | store n x v =>
    simp only [opX] at h
    split at h
    · rename_i m off hm
      split at h
      · rename_i l hl
        split at h
        · rename_i hn
          obtain ⟨u, hu, hlu, h⟩ := getK_some h
          obtain ⟨h1, h⟩ := cellsK_some h
          obtain ⟨hc, h⟩ := chk_some h
          simp only [Bool.and_eq_true, Nat.beq_eq, Nat.ble_eq] at hc
          exact ⟨_, .st n x v m off l u.cells u rfl rfl hm hl hn hu hlu rfl h1 hc.1 hc.2, h, .inl ⟨n, x, v, rfl⟩⟩
        · cases h
      · cases h
    · have h : (valX E D id nx (.store n x v) e σ fun v σ' => κ v r σ') = some res := h
      rcases valX_ok h with ⟨hc, v, h1, h2⟩ | ⟨hc, v, h1, h2⟩ | ⟨hc, v, b, h1, h2⟩ | ⟨hc, v, σ1, σ2, h1, h2, h3⟩
      · cases hc
      · cases hc
      · cases hc
      · exact ⟨_, .k v σ1 σ2 hc h1 h2, h3, .inl ⟨_, _, _, rfl⟩⟩
  | _ => exact gen (by simpa only [opX] using h)
end Go.Og

set_option linter.unusedSimpArgs false
namespace Go.Og
variable {P : Program} {D : Den} {C : Cx} {R : Ren} {σ : H} {w w' : World}

abbrev Bs := Nat → Option BI

/-- The blocks of the call's own. -/
structure Priv (C : Cx) (R : Ren) (B : Bs) (r : Rg) (σ : H) (w : World) : Prop where
  at_ : ∀ m i, B m = some i → C.O i.blk ∧ ∃ l, look r m = some l ∧ OwnOk R i (.cells l) w
  inj : ∀ m m' i i', B m = some i → B m' = some i' → i.blk = i'.blk → m = m'
  apart : ∀ m i, B m = some i → ∀ id b j, look σ.bl id = some b → R id = some j → j.blk ≠ i.blk

structure EnvL (R : Ren) (e : Env) (tmps : Array Value) : Prop where
  at_ : ∀ (k : Nat) (v : V), look e k = some v → ∃ x, tmps[k]? = some x ∧ conc R v = some x
structure QOk (B : Bs) (q : Qs) (tmps : Array Value) : Prop where
  at_ : ∀ (k m off : Nat), look q k = some (m, off) → ∃ i, B m = some i ∧ tmps[k]? = some (.pointer (some ⟨i.blk, i.shift + off, none⟩))

theorem live_of_conc {v : V} {x : Value} (h : conc R v = some x) : v.live = true := by
  cases v <;> first | rfl | (simp [conc] at h)
theorem EnvL.env {e : Env} {tmps : Array Value} (h : EnvL R e tmps) : EnvOk R e tmps := ⟨fun k v hk => .inr (h.at_ k v hk)⟩
theorem EnvL.live {e : Env} {tmps : Array Value} (h : EnvL R e tmps) : Live e := fun t v ht => by
  obtain ⟨x, _, hx⟩ := h.at_ t v ht
  exact live_of_conc hx
theorem EnvL.mono {R' : Ren} {e : Env} {tmps : Array Value} (h : EnvL R e tmps) (hle : Le R R') : EnvL R' e tmps :=
  ⟨fun k v hk => by obtain ⟨x, h1, h2⟩ := h.at_ k v hk; exact ⟨x, h1, conc_mono hle v x h2⟩⟩

/-- The same, in a world in which only blocks have turned that are none of these. -/
theorem Rel.frame (h : Rel C R σ w) (hold : ∀ blk, blk < w.heap.size → ((∃ id b j, look σ.bl id = some b ∧ R id = some j ∧ j.blk = blk) ∨ ¬ C.O blk) → w'.heap[blk]? = w.heap[blk]?)
    (hsz : w.heap.size ≤ w'.heap.size) (hos : w'.os = w.os) (htape : w'.tape = w.tape) (hout : w'.output = w.output) : Rel C R σ w' := by
  refine ⟨h.fresh, ?_, h.inj, ?_, h.glob, ?_, Nat.le_trans h.size hsz, h.new, hos.trans h.os, htape.trans h.tape, hout.trans h.output⟩
  · intro id b hb
    obtain ⟨i, hi, hO, hok⟩ := h.own id b hb
    exact ⟨i, hi, hO, hok.mono (Le.refl _) (hold _ hok.lt (.inl ⟨id, b, i, hb, hi, rfl⟩))⟩
  · intro id b hb
    obtain ⟨i, hi, hn, hok⟩ := h.ext id b hb
    refine ⟨i, hi, hn, hok.mono (Le.refl _) (hold _ ?_ (.inr hn))⟩
    rcases Nat.lt_or_ge i.blk w.heap.size with hl | hl
    · exact hl
    · exact absurd (h.new _ (Nat.le_trans h.size hl)) hn
  · intro blk hn
    rw [← h.fr blk hn]
    rcases Nat.lt_or_ge blk w.heap.size with hl | hl
    · exact hold _ hl (.inr hn)
    · exact absurd (h.new _ (Nat.le_trans h.size hl)) hn

theorem Priv.mono {R' : Ren} {B : Bs} {r : Rg} {σ' : H} (h : Priv C R B r σ w) (hle : Le R R') (hold : ∀ m i, B m = some i → w'.heap[i.blk]? = w.heap[i.blk]?)
    (hap : ∀ m i, B m = some i → ∀ id b j, look σ'.bl id = some b → R' id = some j → j.blk ≠ i.blk) : Priv C R' B r σ' w' where
  at_ m i hm := by
    obtain ⟨hO, l, hl, hok⟩ := h.at_ m i hm
    exact ⟨hO, l, hl, hok.mono hle (hold m i hm)⟩
  inj := h.inj
  apart := hap
theorem Priv.lt {B : Bs} {r : Rg} (h : Priv C R B r σ w) {m : Nat} {i : BI} (hm : B m = some i) : i.blk < w.heap.size := by
  obtain ⟨_, l, _, hok⟩ := h.at_ m i hm
  exact hok.lt

/-- One block of the call's own, as a heap. -/
theorem Priv.one (h : Rel C R σ w) {B : Bs} {r : Rg} (hp : Priv C R B r σ w) {m : Nat} {i : BI} (hm : B m = some i) {l : List V} (hl : look r m = some l) :
    Rel { C with O := fun blk => blk = i.blk ∨ w.heap.size ≤ blk, w0 := w } (upd R σ.next i) ⟨σ.next + 1, [(σ.next, .cells l)]⟩ w := by
  have hle : Le R (upd R σ.next i) := (upd_ext R σ.next i).le h.fresh
  obtain ⟨hO, l', hl', hok⟩ := hp.at_ m i hm
  rw [hl] at hl'; cases hl'
  have hsub : ∀ blk, (blk = i.blk ∨ w.heap.size ≤ blk) → C.O blk := by
    rintro blk (rfl | hg)
    · exact hO
    · exact h.new _ (Nat.le_trans h.size hg)
  have hlook : ∀ id b, look [(σ.next, Blk.cells l)] id = some b → id = σ.next ∧ b = .cells l := by
    intro id b hb
    simp only [look, Nat.beq_eq] at hb
    split at hb
    · rename_i he; cases hb; exact ⟨he.symm, rfl⟩
    · cases hb
  refine ⟨?_, ?_, ?_, ?_, ?_, fun _ _ => rfl, Nat.le_refl _, fun _ hb => .inr hb, rfl, rfl, rfl⟩
  · intro id hid
    have hid' : σ.next + 1 ≤ id := hid
    rw [upd_other (by omega)]; exact h.fresh id (by omega)
  · intro id b hb
    obtain ⟨rfl, rfl⟩ := hlook id b hb
    exact ⟨i, upd_same _ _ _, .inl rfl, hok.mono hle rfl⟩
  · intro id id' b b' j j' hb hb' _ _ _
    rw [(hlook id b hb).1, (hlook id' b' hb').1]
  · intro id b hb
    obtain ⟨j, hj, hn, hk⟩ := h.ext id b hb
    exact ⟨j, hle _ _ hj, fun ho => hn (hsub _ ho), hk.mono hle rfl⟩
  · intro g hg
    obtain ⟨j, hj, hb⟩ := h.glob g hg
    exact ⟨j, hle _ _ hj, hb⟩

theorem EnvOk.cons {e : Env} {tmps : Array Value} (h : EnvOk R e tmps) {t : Nat} {v : V} {x : Value} (ht : tmps[t]? = some x) (hv : conc R v = some x) : EnvOk R ((t, v) :: e) tmps := by
  refine ⟨fun k u hk => ?_⟩
  simp only [look, Nat.beq_eq] at hk
  split at hk
  · rename_i he; subst he; cases hk; exact .inr ⟨x, ht, hv⟩
  · exact h.at_ k u hk

theorem look_repl' {α : Type} {l : List (Nat × α)} {m : Nat} {a c : α} (h : look l m = some a) (k : Nat) : look (repl l m c) k = if m = k then some c else look l k := by
  rw [look_repl]
  by_cases he : m = k
  · subst he; rw [if_pos rfl, if_pos rfl, h]; rfl
  · rw [if_neg he, if_neg he]

structure MemI (C : Cx) (R : Ren) (B : Bs) (r : Rg) (σ : H) (w : World) : Prop where
  rel : Rel C R σ w
  priv : Priv C R B r σ w

/-- One operation. -/
theorem step_ok (hD : ∀ f, SoundFn P C.E C.G f (D f)) {B : Bs} {r : Rg} (hm : MemI C R B r σ w) {a : Act} {e : Env} {q : Qs} (he : EnvL R e a.tmps) (hq : QOk B q a.tmps)
    (o : Oper) {pw : Bool} {id nx : Nat} (hid : R id = none) (hlt : id < nx) (hnx : σ.next ≤ nx) {out : Out} (h : Step C.E D pw id nx (compOp P C.G o.op) e q r σ out) (K : Act → World → Prop) (Q : Exit → Act → World → Prop)
    (hV : ∀ v r' σ', out = .val v r' σ' → ∀ R' w' x, Le R R' → (∀ k, k < σ.next → k ≠ id → R' k = R k) → σ.next ≤ σ'.next → MemI C R' B r' σ' w' → ((v = .dead ∧ (compOp P C.G o.op).cls = .k) ∨ conc R' v = some x) → K (a.put o.dst x) w')
    (hM : ∀ m off, out = .mark m off → ∀ i, B m = some i → K (a.put o.dst (.pointer (some ⟨i.blk, i.shift + off, none⟩))) w) : o.wp P a w K Q := by
  obtain ⟨hrel, hpriv⟩ := hm
  have hg := hrel.globOk
  have hmark : ∀ x m off, markX q x = some (m, off) → ∃ t i, x = .tmp t ∧ B m = some i ∧ a.tmps[t]? = some (.pointer (some ⟨i.blk, i.shift + off, none⟩)) := by
    intro x m off hx
    cases x with
    | con v => cases hx
    | tmp t =>
      obtain ⟨i, h1, h2⟩ := hq.at_ t m off hx
      exact ⟨t, i, rfl, h1, h2⟩
  have hle2 : ∀ i, Le R (upd R σ.next i) := fun i => (upd_ext R σ.next i).le hrel.fresh
  have hg2 : ∀ i, GlobOk C.G (upd R σ.next i) := fun i g hgg => by
    obtain ⟨j, hj, hb⟩ := hg g hgg
    exact ⟨j, hle2 i _ _ hj, hb⟩
  have hcp : ∀ i off, conc (upd R σ.next i) (.ptr σ.next off) = some (.pointer (some ⟨i.blk, i.shift + off, none⟩)) := fun i off => conc_ptr_mk (upd_same _ _ _)
  cases h with
  | p v hc h =>
    replace h := h he.live
    obtain ⟨x, hx, hrun⟩ := aopP_ok (a := a) (P := P) he.env hg o h w
    unfold Oper.wp; rw [hrun]
    exact hV v r σ rfl R w x (Le.refl _) (fun _ _ _ => rfl) (Nat.le_refl _) ⟨hrel, hpriv⟩ (.inr hx)
  | l v hc h =>
    replace h := h he.live
    obtain ⟨x, hx, hrun⟩ := aopL_ok (a := a) (P := P) hrel he.env o h
    unfold Oper.wp; rw [hrun]
    exact hV v r σ rfl R w x (Le.refl _) (fun _ _ _ => rfl) (Nat.le_refl _) ⟨hrel, hpriv⟩ (.inr hx)
  | a v b hc h =>
    replace h := h he.live
    obtain ⟨x, w', i, hrun, hn, hi, hx, hok⟩ := aopA_ok (a := a) (P := P) he.env hg o h hid w
    unfold Oper.wp; rw [hrun]
    have hle : Le R (upd R id i) := fun k j hk => by
      by_cases hke : k = id
      · subst hke; rw [hid] at hk; cases hk
      · rw [upd_other hke]; exact hk
    have hrel1 : Rel C R ⟨nx, σ.bl⟩ w := hrel.congr (fun k hk => hrel.fresh k (Nat.le_trans hnx hk)) (fun _ _ hb => hb)
    have hrel2 : Rel C (upd R id i) ⟨nx, (id, b) :: σ.bl⟩ w' := by
      refine hrel1.allocAt hid hlt hn b i hi hok rfl (fun k => ?_)
      simp only [look, Nat.beq_eq]
      by_cases hk : k = id
      · subst hk; simp
      · rw [if_neg (Ne.symm hk), if_neg hk]
    refine hV v r _ rfl (upd R id i) w' x hle (fun k _ hk => upd_other hk) hnx ⟨hrel2, hpriv.mono hle (fun m j hj => hn.old _ (hpriv.lt hj)) (fun m j hj k c j' hk hj' => ?_)⟩ (.inr hx)
    simp only [look, Nat.beq_eq] at hk
    split at hk
    · rename_i he'; subst he'
      rw [upd_same] at hj'; cases hj'
      have := hpriv.lt hj
      omega
    · rename_i he'
      rw [upd_other (Ne.symm he')] at hj'
      exact hpriv.apart m j hj k c j' hk hj'
  | k v σ1 σ2 hc h hs =>
    replace h := h he.live
    have hsh : Rel (C.sub R σ w) R σ w := hrel.shrink (σs := σ) rfl (fun _ _ hb => hb)
    refine den1_ok (C := C.sub R σ w) hD rfl rfl hsh he.env o h K Q (fun R' w' x hx hn hrel' hv => ?_)
    have hle : Le R R' := hx.le hrel.fresh
    have hno : ∀ m i, B m = some i → ¬ (C.sub R σ w).O i.blk := by
      rintro m i hm (hg | ⟨k, b, j, hb, hj, hbl⟩)
      · have := hpriv.lt hm; omega
      · exact hpriv.apart m i hm k b j hb hj hbl
    have hrel2 : Rel C R' σ1 w' := hrel.regrow (σs := σ) (fun _ _ hb => hb) hrel' hx rfl (fun k b hk => .inl hk)
    have hrel3 : Rel C R' σ2 w' := hrel2.congr (fun k hk => hrel2.fresh k (by rw [← hs.next]; exact hk)) hs.sub
    have hv : (v = .dead ∧ (compOp P C.G o.op).cls = .k) ∨ conc R' v = some x := hv.imp (fun h => ⟨h, hc⟩) (fun h => h)
    refine hV v r σ2 rfl R' w' x hle (fun k hk _ => hx k hk) (by rw [hs.next]; exact hn) ⟨hrel3, hpriv.mono hle (fun m i hm => hrel'.fr _ (hno m i hm)) (fun m i hm k b j hk hj hbl => ?_)⟩ hv
    obtain ⟨j', hj', hO, _⟩ := hrel'.own k b (hs.sub k b hk)
    rw [hj] at hj'; cases hj'
    exact hno m i hm (hbl ▸ hO)
  | mv x m off ho hmx =>
    obtain ⟨t, i, rfl, hB, ht⟩ := hmark x m off hmx
    have he2 : EnvOk (upd R σ.next i) [(t, .ptr σ.next off)] a.tmps := EnvOk.cons ⟨fun k v hk => by simp [look] at hk⟩ ht (hcp i off)
    have hap : aopP (compOp P C.G o.op) [(t, .ptr σ.next off)] = some (.ptr σ.next off) := by
      have hop : opv [(t, V.ptr σ.next off)] (.tmp t) = .ptr σ.next off := by simp [opv, getE, look]
      rcases ho with ho | ho <;> rw [ho] <;> simp only [aopP, hop, V.live, if_true]
    obtain ⟨x, hx, hrun⟩ := aopP_ok (a := a) (P := P) he2 (hg2 i) o hap w
    rw [hcp i off] at hx; cases hx
    unfold Oper.wp; rw [hrun]
    exact hM m off rfl i hB
  | fa d x m off ho hmx =>
    obtain ⟨t, i, rfl, hB, ht⟩ := hmark x m off hmx
    have he2 : EnvOk (upd R σ.next i) [(t, .ptr σ.next off)] a.tmps := EnvOk.cons ⟨fun k v hk => by simp [look] at hk⟩ ht (hcp i off)
    have hap : aopP (compOp P C.G o.op) [(t, .ptr σ.next off)] = some (.ptr σ.next (off + d)) := by
      have hop : opv [(t, V.ptr σ.next off)] (.tmp t) = .ptr σ.next off := by simp [opv, getE, look]
      rw [ho]; simp only [aopP, hop]
    obtain ⟨x, hx, hrun⟩ := aopP_ok (a := a) (P := P) he2 (hg2 i) o hap w
    rw [hcp i (off + d)] at hx; cases hx
    unfold Oper.wp; rw [hrun]
    exact hM m (off + d) rfl i hB
  | ld x m off l v ho hmx hl h =>
    obtain ⟨t, i, rfl, hB, ht⟩ := hmark x m off hmx
    have hr2 := hpriv.one hrel hB hl
    have he2 : EnvOk (upd R σ.next i) [(t, .ptr σ.next off)] a.tmps := EnvOk.cons ⟨fun k v hk => by simp [look] at hk⟩ ht (hcp i off)
    have hap : aopL C.E (compOp P C.G o.op) [(t, .ptr σ.next off)] ⟨σ.next + 1, [(σ.next, .cells l)]⟩ = some v := by
      have hop : opv [(t, V.ptr σ.next off)] (.tmp t) = .ptr σ.next off := by simp [opv, getE, look]
      rw [ho]; simp [aopL, hop, rd, look, h]
    obtain ⟨x, hx, hrun⟩ := aopL_ok (a := a) (P := P) hr2 he2 o hap
    unfold Oper.wp; rw [hrun]
    obtain ⟨_, l', hl', hok⟩ := hpriv.at_ m i hB
    rw [hl] at hl'; cases hl'
    obtain ⟨arr, el, lo, hi, _, hh, _⟩ := hok
    obtain ⟨y, hy, _⟩ := hh off v h
    have hyx := conc_mono (hle2 i) v y hy
    rw [hx] at hyx; cases hyx
    exact hV v r σ rfl R w x (Le.refl _) (fun _ _ _ => rfl) (Nat.le_refl _) ⟨hrel, hpriv⟩ (.inr hy)
  | ldn n x m off l ho hmx hl h =>
    obtain ⟨t, i, rfl, hB, ht⟩ := hmark x m off hmx
    have hr2 := hpriv.one hrel hB hl
    have he2 : EnvOk (upd R σ.next i) [(t, .ptr σ.next off)] a.tmps := EnvOk.cons ⟨fun k v hk => by simp [look] at hk⟩ ht (hcp i off)
    have hap : aopL C.E (compOp P C.G o.op) [(t, .ptr σ.next off)] ⟨σ.next + 1, [(σ.next, .cells l)]⟩ = some (.agg ((l.drop off).take n)) := by
      have hop : opv [(t, V.ptr σ.next off)] (.tmp t) = .ptr σ.next off := by simp [opv, getE, look]
      rw [ho]; simp [aopL, hop, rdN, rd, look, h]
    obtain ⟨x, hx, hrun⟩ := aopL_ok (a := a) (P := P) hr2 he2 o hap
    unfold Oper.wp; rw [hrun]
    obtain ⟨_, l', hl', hok⟩ := hpriv.at_ m i hB
    rw [hl] at hl'; cases hl'
    obtain ⟨arr, el, lo, hi, _, hh, _⟩ := hok
    obtain ⟨xs, hxs, _⟩ := hh.cells h
    have hy : conc R (.agg ((l.drop off).take n)) = some (.agg xs.toArray) := conc_agg_mk hxs
    have hyx := conc_mono (hle2 i) _ _ hy
    rw [hx] at hyx; cases hyx
    exact hV _ r σ rfl R w _ (Le.refl _) (fun _ _ _ => rfl) (Nat.le_refl _) ⟨hrel, hpriv⟩ (.inr hy)
  | st n x y m off l cs u hw ho hmx hl hn hu hlu hcs h1 hlen h =>
    replace hlu := hlu he.live
    obtain ⟨t, i, rfl, hB, ht⟩ := hmark x m off hmx
    have hr2 := hpriv.one hrel hB hl
    have he2 : EnvOk (upd R σ.next i) ((t, .ptr σ.next off) :: e) a.tmps := EnvOk.cons (he.env.mono (hle2 i)) ht (hcp i off)
    have hop : opv ((t, V.ptr σ.next off) :: e) (.tmp t) = .ptr σ.next off := by simp [opv, getE, look]
    have hoy : opv ((t, V.ptr σ.next off) :: e) y = u := by
      rw [← hu]
      cases y with
      | con v => rfl
      | tmp s =>
        have hne : ¬ t = s := fun hts => by subst hts; simp only [markX] at hn hmx; rw [hn] at hmx; cases hmx
        simp only [opv, getE, look, Nat.beq_eq, hne, if_false]
    have hap : den1 C.E D (compOp P C.G o.op) ((t, .ptr σ.next off) :: e) ⟨σ.next + 1, [(σ.next, .cells l)]⟩ = some (.dead, (⟨σ.next + 1, [(σ.next, .cells l)]⟩ : H).set σ.next (.cells (spl l off cs))) := by
      rw [ho]
      simp only [den1, aop, AOp.cls, aopK, hop, hoy]
      simp only [look, Nat.beq_eq, if_true]
      rw [if_pos]
      · rw [hcs]
      · simp only [Bool.and_eq_true, Nat.beq_eq, Nat.ble_eq]
        exact ⟨⟨by rw [← hcs]; exact hlen, h⟩, by rw [← hcs]; exact h1⟩
    refine den1_ok (C := { C with O := fun blk => blk = i.blk ∨ w.heap.size ≤ blk, w0 := w }) hD rfl rfl hr2 he2 o hap K Q (fun R' w' x hx hn' hrel' hv => ?_)
    have hR'n : R' σ.next = some i := by rw [hx σ.next (Nat.lt_succ_self _)]; exact upd_same _ _ _
    obtain ⟨j, hj, _, hok⟩ := hrel'.own σ.next (.cells (spl l off cs)) (by simp [H.set, repl, look])
    rw [hR'n] at hj; cases hj
    have hRR' : Le R R' := (hle2 i).trans (hx.le (fun k hk => by
      have hk' : σ.next + 1 ≤ k := hk
      rw [upd_other (by omega)]; exact hrel.fresh k (by omega)))
    -- each of its cells was known before
    obtain ⟨hOi, l', hl', hokl⟩ := hpriv.at_ m i hB
    rw [hl] at hl'; cases hl'
    have hcell : ∀ u' : V, (∃ k : Nat, (spl l off cs)[k]? = some u') → ∃ y, conc R u' = some y := by
      rintro u' ⟨k, hk⟩
      rw [spl_get] at hk
      split at hk
      · split at hk
        · have huc : ∃ z, conc R u = some z := by
            obtain ⟨oy, rfl⟩ : ∃ oy, y = compO C.G oy := by
              obtain ⟨dst, op, ty, pos, after, guard⟩ := o
              simp only at ho
              cases op <;> simp only [compOp] at ho <;> (try (first | (cases ho; done) | ((repeat' split at ho) <;> (cases ho; done))))
              · split at ho
                · cases ho
                · simp only [AOp.store.injEq] at ho; exact ⟨_, ho.2.2.symm⟩
                · cases ho
              · rename_i fn _ _; cases fn <;> cases ho
              · rename_i r; cases r <;> cases ho
              · rename_i ok; cases ok
                · cases ho
                · simp only at ho; split at ho <;> cases ho
              · rename_i c
                obtain ⟨callee, cargs, argTypes⟩ := c
                simp only at ho
                split at ho
                · unfold compB at ho; (repeat' split at ho) <;> cases ho
                · cases ho
                · cases ho
                · cases ho
            exact ⟨_, ev (a := a) he.env hg hu hlu⟩
          obtain ⟨z, hz⟩ := huc
          have hcc := conc_cells hz
          rw [← hcs] at hcc
          obtain ⟨y', hy', _⟩ := concs_get hcc hk
          exact ⟨y', hy'⟩
        · cases hk
      · obtain ⟨arr, el, lo, hi, _, hh, _⟩ := hokl
        obtain ⟨y', hy', _⟩ := hh k u' hk
        exact ⟨y', hy'⟩
    have hokR : OwnOk R i (.cells (spl l off cs)) w' := by
      obtain ⟨arr, el, lo, hi, h1', h2', h3', h4', h5'⟩ := hok
      refine ⟨arr, el, lo, hi, h1', fun k v hk => ?_, h3', h4', h5'⟩
      obtain ⟨y', hy', hone, harr⟩ := h2' k v hk
      obtain ⟨y2, hy2⟩ := hcell v ⟨k, hk⟩
      have := conc_mono hRR' v y2 hy2
      rw [hy'] at this; cases this
      exact ⟨_, hy2, hone, harr⟩
    have hfr : ∀ blk, blk < w.heap.size → blk ≠ i.blk → w'.heap[blk]? = w.heap[blk]? := fun blk hb hne => hrel'.fr blk (by rintro (h | h); exact hne h; omega)
    have hrelw : Rel C R σ w' := hrel.frame (fun blk hb hor => by
      refine hfr blk hb ?_
      rcases hor with ⟨k, b, j, hk, hj, rfl⟩ | hno
      · exact hpriv.apart m i hB k b j hk hj
      · intro he'; exact hno (he' ▸ hOi)) hrel'.size hrel'.os hrel'.tape hrel'.output
    refine hV .dead _ σ rfl R w' x (Le.refl _) (fun _ _ _ => rfl) (Nat.le_refl _) ⟨hrelw, ⟨fun m' i' hm' => ?_, hpriv.inj, hpriv.apart⟩⟩ (.inl ⟨rfl, by rw [ho]; rfl⟩)
    obtain ⟨hO', l2, hl2, hok2⟩ := hpriv.at_ m' i' hm'
    refine ⟨hO', ?_⟩
    by_cases hmm : m = m'
    · subst hmm
      rw [hB] at hm'; cases hm'
      exact ⟨_, by rw [look_repl' hl, if_pos rfl], hokR⟩
    · refine ⟨l2, by rw [look_repl' hl, if_neg hmm]; exact hl2, hok2.mono (Le.refl _) (hfr _ hok2.lt (fun hbl => hmm (hpriv.inj m m' i i' hB hm' hbl.symm)))⟩
end Go.Og

set_option linter.unusedSimpArgs false
namespace Go.Og
variable {P : Program} {E : List (Nat × Blk)} {D : Den} {C : Cx} {R : Ren} {σ : H} {w w' : World}

inductive Run (E : List (Nat × Blk)) (D : Den) (dr : Bool) (n0 : Nat) : Nat → List (AOper × List Nat) → St → St → Prop where
  | nil (i : Nat) (s : St) : Run E D dr n0 i [] s s
  | skip (i : Nat) (o : AOper) (ks : List Nat) (l : List (AOper × List Nat)) (s s' : St) (hw : wantedA (selE dr ks s.e) o.guard = some false)
      (h : Run E D dr n0 (i + 1) l ⟨putE s.e o.dst undefV, without1 o.dst s.q, s.r, s.σ⟩ s') : Run E D dr n0 i ((o, ks) :: l) s s'
  | val (i : Nat) (o : AOper) (ks : List Nat) (l : List (AOper × List Nat)) (s s' : St) (pw : Bool) (v : V) (r' : Rg) (σ' : H) (hw : wantedA (selE dr ks s.e) o.guard = some true)
      (hs : Step E D pw s.σ.next (s.σ.next + 1) o.op (selE dr ks s.e) (selQ dr ks s.q) s.r s.σ (.val v r' σ'))
      (hl : o.dst = none ∨ v.live = true ∨ o.op.cls ≠ .k) (hna : dr = true → o.op.cls ≠ .a)
      (h : Run E D dr n0 (i + 1) l ⟨putE s.e o.dst v, without1 o.dst s.q, r', σ'⟩ s') : Run E D dr n0 i ((o, ks) :: l) s s'
  | mark (i : Nat) (o : AOper) (ks : List Nat) (l : List (AOper × List Nat)) (s s' : St) (pw : Bool) (id nx m off : Nat) (hw : wantedA (selE dr ks s.e) o.guard = some true)
      (hs : Step E D pw id nx o.op (selE dr ks s.e) (selQ dr ks s.q) s.r s.σ (.mark m off))
      (h : Run E D dr n0 (i + 1) l ⟨without1 o.dst s.e, putQ (without1 o.dst s.q) o.dst (m, off), s.r, s.σ⟩ s') : Run E D dr n0 i ((o, ks) :: l) s s'
  | pal (i : Nat) (o : AOper) (ks : List Nat) (l : List (AOper × List Nat)) (s s' : St) (d : Nat) (el : TypeId) (z : List V) (hd : o.dst = some d) (ho : o.op = .alloc el z) (hw : wantedA (selE dr ks s.e) o.guard = some true)
      (h : Run E D dr n0 (i + 1) l ⟨without [d] s.e, (d, (d, 0)) :: unmark d (without [d] s.q), (d, z) :: without [d] s.r, s.σ⟩ s') : Run E D dr n0 i ((o, ks) :: l) s s'
  | shrink (i : Nat) (l : List (AOper × List Nat)) (s s' : St) (e : Env) (q : Qs) (he : ∀ t v, look e t = some v → look s.e t = some v) (hq : ∀ t v, look q t = some v → look s.q t = some v)
      (h : Run E D dr n0 i l ⟨e, q, s.r, s.σ⟩ s') : Run E D dr n0 i l s s'

theorem Run.append {dr : Bool} {n0 : Nat} : ∀ {i : Nat} {l m : List (AOper × List Nat)} {s s1 s2 : St}, Run E D dr n0 i l s s1 → Run E D dr n0 (i + l.length) m s1 s2 → Run E D dr n0 i (l ++ m) s s2 := by
  intro i l m s s1 s2 h
  induction h with
  | nil i s => intro h2; simpa using h2
  | skip i o ks l s s' hw _ ih => intro h2; exact .skip i o ks _ s s2 hw (ih (by rwa [List.length_cons, show i + (l.length + 1) = i + 1 + l.length by omega] at h2))
  | val i o ks l s s' pw v r' σ' hw hs hl hna _ ih => intro h2; exact .val i o ks _ s s2 pw v r' σ' hw hs hl hna (ih (by rwa [List.length_cons, show i + (l.length + 1) = i + 1 + l.length by omega] at h2))
  | mark i o ks l s s' pw id nx m off hw hs _ ih => intro h2; exact .mark i o ks _ s s2 pw id nx m off hw hs (ih (by rwa [List.length_cons, show i + (l.length + 1) = i + 1 + l.length by omega] at h2))
  | pal i o ks l s s' d el z hd ho hw _ ih => intro h2; exact .pal i o ks _ s s2 d el z hd ho hw (ih (by rwa [List.length_cons, show i + (l.length + 1) = i + 1 + l.length by omega] at h2))
  | shrink i l s s' e q he hq _ ih => intro h2; exact .shrink i _ s s2 e q he hq (ih h2)

/-! ### looks -/
theorem look_without {α : Type} (ds : List Nat) (l : List (Nat × α)) (t : Nat) : look (without ds l) t = if memN ds t = true then none else look l t := by
  induction l with
  | nil => simp [without, look]
  | cons p l ih =>
    obtain ⟨k, v⟩ := p
    simp only [without]
    split
    · rename_i hk
      rw [ih]
      by_cases ht : memN ds t = true
      · rw [if_pos ht, if_pos ht]
      · rw [if_neg ht, if_neg ht]
        have hkt : ¬ k = t := fun h => ht (h ▸ hk)
        simp only [look, Nat.beq_eq, hkt, if_false]
    · rename_i hk
      simp only [look, Nat.beq_eq]
      by_cases hkt : k = t
      · subst hkt; rw [if_pos rfl, if_neg (by rw [hk]; simp), if_pos rfl]
      · rw [if_neg hkt, if_neg hkt, ih]
theorem memN_one (d t : Nat) : memN [d] t = true ↔ d = t := by simp [memN]
theorem memN_cons (d : Nat) (l : List Nat) (t : Nat) : memN (d :: l) t = true ↔ d = t ∨ memN l t = true := by simp [memN]
theorem memN_append (l m : List Nat) (t : Nat) : memN (l ++ m) t = true ↔ memN l t = true ∨ memN m t = true := by
  induction l with
  | nil => simp [memN]
  | cons a l ih => simp only [List.cons_append, memN, Bool.or_eq_true, ih, or_assoc]
theorem look_without1 {α : Type} (d : Option Nat) (l : List (Nat × α)) (t : Nat) : look (without1 d l) t = if d = some t then none else look l t := by
  cases d with
  | none => simp [without1]
  | some d =>
    simp only [without1, look_without, Option.some.injEq]
    by_cases h : d = t
    · rw [if_pos ((memN_one d t).2 h), if_pos h]
    · rw [if_neg (fun hh => h ((memN_one d t).1 hh)), if_neg h]
theorem look_putE (e : Env) (d : Option Nat) (v : V) (t : Nat) : look (putE e d v) t = if d = some t then some v else look e t := by
  cases d with
  | none => simp [putE]
  | some d =>
    simp only [putE, look, Nat.beq_eq, Option.some.injEq]
theorem look_putQ (q : Qs) (d : Option Nat) (p : Nat × Nat) (t : Nat) : look (putQ q d p) t = if d = some t then some p else look q t := by
  cases d with
  | none => simp [putQ]
  | some d =>
    simp only [putQ, look, Nat.beq_eq, Option.some.injEq]
theorem look_restr_mem {ks : List Nat} {e : Env} {t : Nat} (h : memN ks t = true) : look (restr ks e) t = look e t := by
  induction ks with
  | nil => simp [memN] at h
  | cons a ks ih =>
    simp only [memN, Bool.or_eq_true, Nat.beq_eq] at h
    simp only [restr]
    cases ha : look e a with
    | none =>
      simp only
      by_cases hat : a = t
      · subst hat
        rw [ha]
        cases hl : look (restr ks e) a with
        | none => rfl
        | some v => rw [(look_restr ks e a v hl).1] at ha; cases ha
      · exact ih (h.resolve_left hat)
    | some u =>
      simp only [look, Nat.beq_eq]
      by_cases hat : a = t
      · subst hat; rw [if_pos rfl, ha]
      · rw [if_neg hat]; exact ih (h.resolve_left hat)
theorem look_restrQ (ls : List Nat) (q : Qs) (t : Nat) (p : Nat × Nat) (h : look (restrQ ls q) t = some p) : look q t = some p ∧ memN ls t = true := by
  induction ls with
  | nil => simp [restrQ, look] at h
  | cons a ls ih =>
    simp only [restrQ] at h
    simp only [memN, Bool.or_eq_true, Nat.beq_eq]
    cases ha : look q a with
    | none => rw [ha] at h; exact (ih h).imp id .inr
    | some u =>
      rw [ha] at h
      simp only [look, Nat.beq_eq] at h
      by_cases hat : a = t
      · subst hat
        rw [if_pos rfl] at h
        cases h
        exact ⟨ha, .inl rfl⟩
      · rw [if_neg hat] at h
        exact (ih h).imp id .inr
theorem look_selE {dr : Bool} {ks : List Nat} {e : Env} {t : Nat} (h : memN ks t = true) : look (selE dr ks e) t = look e t := by
  cases dr with
  | true => exact look_restr_mem h
  | false => rfl
theorem selE_sub {dr : Bool} {ks : List Nat} {e : Env} {t : Nat} {v : V} (h : look (selE dr ks e) t = some v) : look e t = some v := by
  cases dr with
  | true => exact (look_restr _ _ _ _ h).1
  | false => exact h
theorem marked_not {m : Nat} : ∀ {q : Qs} {t : Nat} {p : Nat × Nat}, memN (marked m q) t = false → look q t = some p → p.1 ≠ m
  | [], t, p, _, h => by simp [look] at h
  | (k, b) :: q, t, p, hm, h => by
    simp only [marked] at hm
    simp only [look, Nat.beq_eq] at h
    split at hm
    · rename_i hb
      have hkt : ¬ k = t := by
        intro he; subst he
        simp [memN] at hm
      rw [if_neg hkt] at h
      have hm2 : memN (marked m q) t = false := by
        cases h2 : memN (marked m q) t with
        | false => rfl
        | true => rw [(memN_cons k _ t).2 (.inr h2)] at hm; cases hm
      exact marked_not hm2 h
    · rename_i hb
      by_cases hk : k = t
      · rw [if_pos hk] at h; cases h
        intro he; rw [← Nat.beq_eq, hb] at he; cases he
      · rw [if_neg hk] at h; exact marked_not hm h
theorem look_unmark (m : Nat) (q : Qs) (t : Nat) (p : Nat × Nat) (h : look (unmark m q) t = some p) : p.1 ≠ m ∧ look q t = some p := by
  unfold unmark at h
  rw [look_without] at h
  split at h
  · cases h
  · rename_i hm
    have hm2 : memN (marked m q) t = false := by simpa using hm
    exact ⟨marked_not hm2 h, h⟩

theorem wanted_of {dr : Bool} {ks : List Nat} {e : Env} {t : Nat} {b c : Bool} (hm : memN ks t = true) (h : look e t = some (.bool c)) : wantedA (selE dr ks e) (some (t, b)) = some (c == b) := by
  simp only [wantedA, getE, look_selE hm, h]
theorem wanted_undef {dr : Bool} {ks : List Nat} {e : Env} {t : Nat} {b : Bool} (hm : memN ks t = true) (h : look e t = some undefV) : wantedA (selE dr ks e) (some (t, b)) = some false := by
  simp only [wantedA, getE, look_selE hm, h, undefV]

theorem flat_len : ∀ (l : XL) (g : Option (Nat × Bool)), (l.flat g).length = l.size ∧ l.lks.length = l.size
  | .nil, g => ⟨rfl, rfl⟩
  | .op _ _ _ _ r, g => by obtain ⟨h1, h2⟩ := flat_len r g; simp [XL.flat, XL.lks, XL.size, h1, h2]
  | .pal _ _ _ _ r, g => by obtain ⟨h1, h2⟩ := flat_len r g; simp [XL.flat, XL.lks, XL.size, h1, h2]
  | .grp t b l _ _ _ _ _ r, g => by
    obtain ⟨h1, h2⟩ := flat_len r g
    obtain ⟨h3, h4⟩ := flat_len l (some (t, b))
    simp [XL.flat, XL.lks, XL.size, h1, h2, h3, h4]
theorem zip_grp (l : XL) (g : Option (Nat × Bool)) (x : AOper) (k : List Nat) (m : List AOper) (n : List (List Nat)) :
    (l.flat g ++ x :: m).zip (l.lks ++ k :: n) = (l.flat g).zip l.lks ++ (x, k) :: m.zip n := by
  obtain ⟨h1, h2⟩ := flat_len l g
  rw [List.zip_append (by omega)]
  rfl
theorem zip_len (l : XL) (g : Option (Nat × Bool)) : ((l.flat g).zip l.lks).length = l.size := by
  obtain ⟨h1, h2⟩ := flat_len l g
  simp [h1, h2]

/-- A group that is not entered. -/
theorem skip_run {dr : Bool} {n0 : Nat} : ∀ (l : XL) (ds : List Nat) (t : Nat) (b : Bool) (i : Nat) (s : St), l.okG (some ds) (some t) = true →
    (look s.e t = some undefV ∨ ∃ c, look s.e t = some (.bool c) ∧ (c == b) = false) → memN l.dsts t = false → (∀ u, memN ds u = true → look s.e u = some undefV) →
    ∃ s', Run E D dr n0 i ((l.flat (some (t, b))).zip l.lks) s s' ∧ s'.r = s.r ∧ s'.σ = s.σ ∧ (∀ u, memN l.dsts u = false → look s'.e u = look s.e u ∧ look s'.q u = look s.q u) ∧
      (∀ u, memN l.dsts u = true → look s'.e u = some undefV)
  | .nil, ds, t, b, i, s, hok, ht, hd, hds => ⟨s, .nil i s, rfl, rfl, fun _ _ => ⟨rfl, rfl⟩, fun u hu => by simp [XL.dsts, memN] at hu⟩
  | .pal _ _ _ _ r, ds, t, b, i, s, hok, ht, hd, hds => by simp [XL.okG] at hok
  | .op d ty ks o r, ds, t, b, i, s, hok, ht, hd, hds => by
    simp only [XL.okG, Bool.and_eq_true] at hok
    obtain ⟨⟨_, hks⟩, hr⟩ := hok
    have hks : memN ks t = true := hks
    have hw : wantedA (selE dr ks s.e) (some (t, b)) = some false := by
      rcases ht with ht | ⟨c, ht, hc⟩
      · exact wanted_undef hks ht
      · rw [wanted_of hks ht, hc]
    cases d with
    | none =>
      have hr : r.okG (some ds) (some t) = true := hr
      obtain ⟨s', h1, h2, h3, h4, h5⟩ := skip_run (dr := dr) (n0 := n0) r ds t b (i + 1) s hr ht hd hds
      exact ⟨s', .skip i ⟨none, o, some (t, b)⟩ ks _ s s' hw h1, h2, h3, h4, h5⟩
    | some d =>
      have hr : r.okG (some (d :: ds)) (some t) = true := hr
      simp only [XL.dsts] at hd
      have hdt : d ≠ t ∧ memN r.dsts t = false := by
        simp only [memN, Bool.or_eq_false_iff] at hd
        exact ⟨(by intro h; rw [← Nat.beq_eq, hd.1] at h; cases h), hd.2⟩
      have hput : ∀ u, look (putE s.e (some d) undefV) u = if d = u then some undefV else look s.e u := fun u => by rw [look_putE]; simp
      obtain ⟨s', h1, h2, h3, h4, h5⟩ := skip_run (dr := dr) (n0 := n0) r (d :: ds) t b (i + 1) ⟨putE s.e (some d) undefV, without1 (some d) s.q, s.r, s.σ⟩ hr
        (by simp only [hput, if_neg hdt.1]; exact ht) hdt.2 (fun u hu => by
          simp only [hput]
          rcases (memN_cons d ds u).1 hu with h | h
          · rw [if_pos h]
          · by_cases hdu : d = u
            · rw [if_pos hdu]
            · rw [if_neg hdu]; exact hds u h)
      refine ⟨s', .skip i ⟨some d, o, some (t, b)⟩ ks _ s s' hw h1, h2, h3, fun u hu => ?_, fun u hu => ?_⟩
      · simp only [XL.dsts, memN, Bool.or_eq_false_iff] at hu
        have hdu : ¬ d = u := by intro h; rw [← Nat.beq_eq, hu.1] at h; cases h
        obtain ⟨h6, h7⟩ := h4 u hu.2
        refine ⟨by rw [h6]; simp only [hput, if_neg hdu], by rw [h7, look_without1]; simp [hdu]⟩
      · simp only [XL.dsts] at hu
        cases hru : memN r.dsts u with
        | true => exact h5 u hru
        | false =>
          rcases (memN_cons d r.dsts u).1 hu with h | h
          · rw [(h4 u hru).1]; simp only [hput, if_pos h]
          · rw [hru] at h; cases h
  | .grp t2 b2 l d ks c x y r, ds, t, b, i, s, hok, ht, hd, hds => by
    simp only [XL.okG, Bool.and_eq_true, Bool.not_eq_true'] at hok
    obtain ⟨⟨⟨⟨⟨⟨hks, _⟩, hlt⟩, _⟩, hdt2⟩, hl⟩, hr⟩ := hok
    have hks : memN ks t = true := hks
    simp only [XL.dsts] at hd
    have hdl : memN l.dsts t = false ∧ d ≠ t ∧ memN r.dsts t = false := by
      have h0 : ¬ (memN (l.dsts ++ d :: r.dsts) t = true) := by rw [hd]; simp
      rw [memN_append, memN_cons] at h0
      refine ⟨?_, fun h => h0 (.inr (.inl h)), ?_⟩
      · cases h : memN l.dsts t with
        | false => rfl
        | true => exact (h0 (.inl h)).elim
      · cases h : memN r.dsts t with
        | false => rfl
        | true => exact (h0 (.inr (.inr h))).elim
    obtain ⟨s1, h1, h2, h3, h4, h5⟩ := skip_run (dr := dr) (n0 := n0) l [] t2 b2 i s hl (.inl (hds t2 hdt2)) hlt (fun u hu => by simp [memN] at hu)
    have ht1 : look s1.e t = some undefV ∨ ∃ c, look s1.e t = some (.bool c) ∧ (c == b) = false := by rw [(h4 t hdl.1).1]; exact ht
    have hw : wantedA (selE dr ks s1.e) (some (t, b)) = some false := by
      rcases ht1 with ht | ⟨c, ht, hc⟩
      · exact wanted_undef hks ht
      · rw [wanted_of hks ht, hc]
    have hput : ∀ u, look (putE s1.e (some d) undefV) u = if d = u then some undefV else look s1.e u := fun u => by rw [look_putE]; simp
    obtain ⟨s', g1, g2, g3, g4, g5⟩ := skip_run (dr := dr) (n0 := n0) r (d :: l.dsts ++ ds) t b (i + l.size + 1) ⟨putE s1.e (some d) undefV, without1 (some d) s1.q, s1.r, s1.σ⟩ hr
      (by simp only [hput, if_neg hdl.2.1]; exact ht1) hdl.2.2 (fun u hu => by
        simp only [hput]
        by_cases hdu : d = u
        · rw [if_pos hdu]
        · rw [if_neg hdu]
          rw [List.cons_append] at hu
          rcases (memN_cons d _ u).1 hu with h | h
          · exact (hdu h).elim
          · cases hlu : memN l.dsts u with
            | true => exact h5 u hlu
            | false =>
              rcases (memN_append _ _ u).1 h with h | h
              · rw [hlu] at h; cases h
              · rw [(h4 u hlu).1]; exact hds u h)
    refine ⟨s', ?_, by rw [g2]; exact h2, by rw [g3]; exact h3, fun u hu => ?_, fun u hu => ?_⟩
    · simp only [XL.flat, XL.lks]
      rw [zip_grp]
      refine h1.append ?_
      rw [zip_len]
      exact .skip _ ⟨some d, .pick c x y, some (t, b)⟩ ks _ s1 s' hw g1
    · simp only [XL.dsts] at hu
      have h0 : ¬ (memN (l.dsts ++ d :: r.dsts) u = true) := by rw [hu]; simp
      rw [memN_append, memN_cons] at h0
      have hlu : memN l.dsts u = false := by
        cases h : memN l.dsts u with
        | false => rfl
        | true => exact (h0 (.inl h)).elim
      have hru : memN r.dsts u = false := by
        cases h : memN r.dsts u with
        | false => rfl
        | true => exact (h0 (.inr (.inr h))).elim
      have hdu : ¬ d = u := fun h => h0 (.inr (.inl h))
      obtain ⟨k1, k2⟩ := g4 u hru
      obtain ⟨k3, k4⟩ := h4 u hlu
      refine ⟨by rw [k1]; simp only [hput, if_neg hdu]; exact k3, by rw [k2, look_without1]; simp only [Option.some.injEq, if_neg hdu]; exact k4⟩
    · simp only [XL.dsts] at hu
      cases hru : memN r.dsts u with
      | true => exact g5 u hru
      | false =>
        rw [(g4 u hru).1]
        simp only [hput]
        by_cases hdu : d = u
        · rw [if_pos hdu]
        · rw [if_neg hdu]
          rcases (memN_append _ _ u).1 hu with h | h
          · exact h5 u h
          · rcases (memN_cons d _ u).1 h with h | h
            · exact (hdu h).elim
            · rw [hru] at h; cases h
end Go.Og

set_option linter.unusedSimpArgs false
namespace Go.Og
variable {E : List (Nat × Blk)} {D : Den}

def Gd (g : Option (Nat × Bool)) (gt : Option Nat) (e : Env) (ds : List Nat) : Prop :=
  (g = none ∧ gt = none) ∨ ∃ t b, g = some (t, b) ∧ gt = some t ∧ look e t = some (.bool b) ∧ memN ds t = false

theorem Gd.wanted {g : Option (Nat × Bool)} {gt : Option Nat} {e : Env} {ds : List Nat} (h : Gd g gt e ds) {dr : Bool} {ks : List Nat} (hs : seen gt ks = true) : wantedA (selE dr ks e) g = some true := by
  rcases h with ⟨rfl, rfl⟩ | ⟨t, b, rfl, rfl, hl, _⟩
  · rfl
  · rw [wanted_of hs hl]; simp
theorem Gd.next {g : Option (Nat × Bool)} {gt : Option Nat} {e e' : Env} {ds ds' : List Nat} (h : Gd g gt e ds) (hd : ∀ t, memN ds t = false → memN ds' t = false) (he : ∀ t, memN ds t = false → look e' t = look e t) : Gd g gt e' ds' := by
  rcases h with ⟨rfl, rfl⟩ | ⟨t, b, rfl, rfl, hl, hm⟩
  · exact .inl ⟨rfl, rfl⟩
  · exact .inr ⟨t, b, rfl, rfl, by rw [he t hm]; exact hl, hd t hm⟩

theorem step_pw {id nx : Nat} {o : AOp} {e : Env} {q : Qs} {r r' : Rg} {σ σ' : H} {v : V} (h : Step E D false id nx o e q r σ (.val v r' σ')) : r' = r := by
  cases h <;> first | rfl | (rename_i hw _ _ _ _ _ _ _ _ _ _; cases hw)

theorem mem_false {ds : List Nat} {t : Nat} : memN ds t = false ↔ ¬ memN ds t = true := by cases memN ds t <;> simp
theorem memN_cons_false {d : Nat} {l : List Nat} {t : Nat} (h : memN (d :: l) t = false) : d ≠ t ∧ memN l t = false := by
  rw [mem_false, memN_cons] at h
  exact ⟨fun hh => h (.inl hh), mem_false.2 fun hh => h (.inr hh)⟩
theorem memN_append_false {l m : List Nat} {t : Nat} (h : memN (l ++ m) t = false) : memN l t = false ∧ memN m t = false := by
  rw [mem_false, memN_append] at h
  exact ⟨mem_false.2 fun hh => h (.inl hh), mem_false.2 fun hh => h (.inr hh)⟩

theorem mk_op {d : Option Nat} {ty : XTy} {ks : List Nat} {o : AOp} {r : XL} (h : (XL.op d ty ks o r).makes = false) : o.cls ≠ .a ∧ r.makes = false := by
  simp only [XL.makes] at h
  split at h
  · cases h
  · rename_i hc; exact ⟨hc, h⟩
theorem mk_grp {t : Nat} {b : Bool} {l : XL} {d : Nat} {ks : List Nat} {c x y : AO} {r : XL} (h : (XL.grp t b l d ks c x y r).makes = false) : l.makes = false ∧ r.makes = false := by
  simpa only [XL.makes, Bool.or_eq_false_iff] using h
theorem okD_some {d : Nat} {ty : XTy} {o : AOp} (h : okD (some d) ty o = true) : (∀ n x y, o = .store n x y → False) ∧ (o.cls = .k → ty.known = true) := by
  constructor
  · rintro n x y rfl; cases h
  · intro hc
    cases o <;> (first | (cases hc; done) | (cases h; done) | exact h | (rename_i t x; cases t <;> cases hc))

theorem denL_run {dr : Bool} {n0 : Nat} : ∀ (l : XL) (ds : Option (List Nat)) (gt : Option Nat) (g : Option (Nat × Bool)) (pw : Bool) (i : Nat) (s : St) (κ : Env → Qs → Rg → H → Ans) (res : V × H),
    denL E D dr pw n0 l i s.e s.q s.r s.σ κ = some res → l.okG ds gt = true → Gd g gt s.e l.dsts → (dr = true → l.makes = false) →
    ∃ s', Run E D dr n0 i ((l.flat g).zip l.lks) s s' ∧ κ s'.e s'.q s'.r s'.σ = some res ∧ (pw = false → s'.r = s.r) ∧
      (∀ u, memN l.dsts u = false → look s'.e u = look s.e u) ∧ (pw = false → ∀ u, memN l.dsts u = false → look s'.q u = look s.q u)
  | .nil, ds, gt, g, pw, i, s, κ, res, h, hok, hg, hmk => ⟨s, .nil i s, h, fun _ => rfl, fun _ _ => rfl, fun _ _ _ => rfl⟩
  | .op d ty ks o r, ds, gt, g, pw, i, s, κ, res, h, hok, hg, hmk => by
    rw [denL_op] at h
    simp only [XL.okG, Bool.and_eq_true] at hok
    obtain ⟨⟨hkd, hks⟩, hr⟩ := hok
    have hr' : ∃ ds', r.okG ds' gt = true := by
      split at hr
      · exact ⟨_, hr⟩
      · exact ⟨_, hr⟩
    obtain ⟨ds', hr'⟩ := hr'
    have hw := hg.wanted (dr := dr) hks
    have hdst : ∀ t, memN (XL.op d ty ks o r).dsts t = false → d ≠ some t ∧ memN r.dsts t = false := by
      intro t ht
      cases d with
      | none => exact ⟨by simp, ht⟩
      | some d => obtain ⟨h1, h2⟩ := memN_cons_false ht; exact ⟨by simpa using h1, h2⟩
    obtain ⟨out, hs, hout⟩ := opX_some h
    cases out with
    | val v r' σ' =>
      obtain ⟨hk, hlv⟩ := hout
      have hput : ∀ t, memN (XL.op d ty ks o r).dsts t = false → look (putE s.e d v) t = look s.e t := fun t ht => by
        rw [look_putE, if_neg (hdst t ht).1]
      obtain ⟨s', h1, h2, h3, h4, h5⟩ := denL_run r ds' gt g pw (i + 1) ⟨putE s.e d v, without1 d s.q, r', σ'⟩ κ res hk hr'
        (hg.next (fun t ht => (hdst t ht).2) hput) (fun hd => (mk_op (hmk hd)).2)
      refine ⟨s', .val i ⟨d, o, g⟩ ks _ s s' pw v r' σ' hw hs ?_ (fun hd => (mk_op (hmk hd)).1) h1, h2, fun hpw => ?_, fun u hu => ?_, fun hpw u hu => ?_⟩
      · cases d with
        | none => exact .inl rfl
        | some d =>
          right
          rcases hlv with ⟨n, x, y, rfl⟩ | hlv | hlv | hlv
          · exact ((okD_some hkd).1 _ _ _ rfl).elim
          · exact .inr hlv
          · right
            intro hc
            have := (okD_some hkd).2 hc
            rw [hlv] at this; cases this
          · exact .inl hlv
      · subst hpw; rw [h3 rfl]; exact step_pw hs
      · rw [h4 u (hdst u hu).2]; exact hput u hu
      · rw [h5 hpw u (hdst u hu).2]
        show look (without1 d s.q) u = _
        rw [look_without1, if_neg (hdst u hu).1]
    | mark m off =>
      have hput : ∀ t, memN (XL.op d ty ks o r).dsts t = false → look (without1 d s.e) t = look s.e t := fun t ht => by
        rw [look_without1, if_neg (hdst t ht).1]
      obtain ⟨s', h1, h2, h3, h4, h5⟩ := denL_run r ds' gt g pw (i + 1) ⟨without1 d s.e, putQ (without1 d s.q) d (m, off), s.r, s.σ⟩ κ res hout hr'
        (hg.next (fun t ht => (hdst t ht).2) hput) (fun hd => (mk_op (hmk hd)).2)
      refine ⟨s', .mark i ⟨d, o, g⟩ ks _ s s' pw _ _ m off hw hs h1, h2, h3, fun u hu => ?_, fun hpw u hu => ?_⟩
      · rw [h4 u (hdst u hu).2]; exact hput u hu
      · rw [h5 hpw u (hdst u hu).2]
        show look (putQ (without1 d s.q) d (m, off)) u = _
        rw [look_putQ, if_neg (hdst u hu).1, look_without1, if_neg (hdst u hu).1]
  | .pal d ks el z r, ds, gt, g, pw, i, s, κ, res, h, hok, hg, hmk => by
    cases pw with
    | false => rw [denL_palF] at h; cases h
    | true =>
      rw [denL_pal] at h
      simp only [XL.okG, Bool.and_eq_true] at hok
      obtain ⟨hks, hr⟩ := hok
      have hr' : r.okG none gt = true := by
        split at hr
        · cases hr
        · exact hr
      have hw := hg.wanted (dr := dr) hks
      have hput : ∀ t, memN (XL.pal d ks el z r).dsts t = false → look (without [d] s.e) t = look s.e t := fun t ht => by
        have := (memN_cons_false ht).1
        rw [look_without, if_neg (fun hh => this ((memN_one d t).1 hh))]
      obtain ⟨s', h1, h2, h3, h4, h5⟩ := denL_run r none gt g true (i + 1) ⟨without [d] s.e, (d, (d, 0)) :: unmark d (without [d] s.q), (d, z) :: without [d] s.r, s.σ⟩ κ res h hr'
        (hg.next (fun t ht => (memN_cons_false ht).2) hput) hmk
      refine ⟨s', .pal i ⟨some d, .alloc el z, g⟩ ks _ s s' d el z rfl rfl hw h1, h2, (fun hpw => by cases hpw), fun u hu => ?_, (fun hpw => by cases hpw)⟩
      rw [h4 u (memN_cons_false hu).2]; exact hput u hu
  | .grp t b l d ks c x y r, ds, gt, g, pw, i, s, κ, res, h, hok, hg, hmk => by
    rw [denL_grp] at h
    simp only [XL.okG, Bool.and_eq_true, Bool.not_eq_true'] at hok
    obtain ⟨⟨⟨⟨⟨⟨hks, hkt⟩, hlt⟩, hpk⟩, _⟩, hl⟩, hr⟩ := hok
    have hr' : ∃ ds', r.okG ds' gt = true := by
      split at hr
      · exact ⟨_, hr⟩
      · exact ⟨_, hr⟩
    obtain ⟨ds', hr'⟩ := hr'
    have hdst : ∀ u, memN (XL.grp t b l d ks c x y r).dsts u = false → memN l.dsts u = false ∧ d ≠ u ∧ memN r.dsts u = false := by
      intro u hu
      obtain ⟨h1, h2⟩ := memN_append_false hu
      obtain ⟨h3, h4⟩ := memN_cons_false h2
      exact ⟨h1, h3, h4⟩
    unfold pickOk at hpk
    simp only [Bool.and_eq_true] at hpk
    obtain ⟨hct, hother⟩ := hpk
    have hct : c = .tmp t := by
      cases c with
      | con v => cases hct
      | tmp u => simp only [Nat.beq_eq] at hct; rw [hct]
    subst hct
    obtain ⟨v, hv, _, h⟩ := getK_some h
    obtain ⟨cb, rfl, h9⟩ := rtBool_some h
    replace h := h9
    have hte : look s.e t = some (.bool cb) := by
      simp only [opv, getE] at hv
      cases hq : look (selE dr [t] s.e) t with
      | none => rw [hq] at hv; cases hv
      | some u => rw [hq] at hv; simp only at hv; subst hv; exact selE_sub hq
    -- the end, whichever way
    have fin : ∀ (s1 : St) (vb : Bool), Run E D dr n0 i ((l.flat (some (t, b))).zip l.lks) s s1 → s1.r = s.r → (∀ u, memN l.dsts u = false → look s1.e u = look s.e u) → (∀ u, memN l.dsts u = false → look s1.q u = look s.q u) →
        aopP (.pick (.tmp t) x y) (selE dr ks s1.e) = some (.bool vb) →
        denL E D dr pw n0 r (i + l.size + 1) ((d, .bool vb) :: without (d :: l.dsts) s.e) (without (d :: l.dsts) s.q) s.r s1.σ κ = some res →
        ∃ s', Run E D dr n0 i (((XL.grp t b l d ks (.tmp t) x y r).flat g).zip (XL.grp t b l d ks (.tmp t) x y r).lks) s s' ∧ κ s'.e s'.q s'.r s'.σ = some res ∧ (pw = false → s'.r = s.r) ∧
          (∀ u, memN (XL.grp t b l d ks (.tmp t) x y r).dsts u = false → look s'.e u = look s.e u) ∧ (pw = false → ∀ u, memN (XL.grp t b l d ks (.tmp t) x y r).dsts u = false → look s'.q u = look s.q u) := by
      intro s1 vb hrun hr1 he1 hq1 hp hrest
      have hput : ∀ u, d ≠ u → memN l.dsts u = false → look ((d, V.bool vb) :: without (d :: l.dsts) s.e) u = look s.e u := by
        intro u h1 h2
        simp only [look, Nat.beq_eq, h1, if_false]
        rw [look_without, if_neg (fun hh => by rcases (memN_cons d _ u).1 hh with hh | hh; exact h1 hh; rw [h2] at hh; cases hh)]
      obtain ⟨s', h1, h2, h3, h4, h5⟩ := denL_run r ds' gt g pw (i + l.size + 1) ⟨(d, .bool vb) :: without (d :: l.dsts) s.e, without (d :: l.dsts) s.q, s.r, s1.σ⟩ κ res hrest hr'
        (hg.next (fun u hu => (hdst u hu).2.2) (fun u hu => hput u (hdst u hu).2.1 (hdst u hu).1)) (fun hd => (mk_grp (hmk hd)).2)
      have hg1 : Gd g gt s1.e (XL.grp t b l d ks (.tmp t) x y r).dsts := hg.next (fun _ hu => hu) (fun u hu => he1 u (hdst u hu).1)
      refine ⟨s', ?_, h2, h3, fun u hu => ?_, fun hpw u hu => ?_⟩
      · simp only [XL.flat, XL.lks]
        rw [zip_grp]
        refine hrun.append ?_
        rw [zip_len]
        refine .val _ ⟨some d, .pick (.tmp t) x y, g⟩ ks _ s1 s' true (.bool vb) s1.r s1.σ (hg1.wanted hks) (.p _ rfl fun _ => hp) (.inr (.inl rfl)) (fun _ h => by cases h) ?_
        refine .shrink _ _ _ s' ((d, .bool vb) :: without (d :: l.dsts) s.e) (without (d :: l.dsts) s.q) (fun u w hu => ?_) (fun u w hu => ?_) (by rw [hr1]; exact h1)
        · simp only [look, Nat.beq_eq] at hu
          rw [look_putE]
          by_cases hdu : d = u
          · rw [if_pos hdu] at hu; rw [if_pos (by rw [hdu])]; exact hu
          · rw [if_neg hdu, look_without] at hu
            rw [if_neg (by simpa using hdu)]
            split at hu
            · cases hu
            · rename_i hm
              rw [he1 u (mem_false.2 fun hh => hm ((memN_cons d _ u).2 (.inr hh)))]
              exact hu
        · rw [look_without] at hu
          split at hu
          · cases hu
          · rename_i hm
            show look (without1 (some d) s1.q) u = some w
            rw [look_without1, if_neg (fun hh => hm ((memN_cons d _ u).2 (.inl (by simpa using hh)))), hq1 u (mem_false.2 fun hh => hm ((memN_cons d _ u).2 (.inr hh)))]
            exact hu
      · rw [h4 u (hdst u hu).2.2]; exact hput u (hdst u hu).2.1 (hdst u hu).1
      · rw [h5 hpw u (hdst u hu).2.2]
        show look (without (d :: l.dsts) s.q) u = _
        rw [look_without, if_neg (fun hh => by rcases (memN_cons d _ u).1 hh with hh | hh; exact (hdst u hu).2.1 hh; rw [(hdst u hu).1] at hh; cases hh)]
    -- entered
    have taken : cb = b → ∀ (z : AO), (∀ e, opv e (.tmp t) = .bool cb → ∀ vb, opv e z = .bool vb → aopP (.pick (.tmp t) x y) e = some (.bool vb)) →
        (denL E D dr false n0 l i s.e s.q s.r s.σ fun e' _ _ σ' => getK (selE dr ks e') z fun v => rtBool v fun v =>
          denL E D dr pw n0 r (i + l.size + 1) ((d, .bool v) :: without (d :: l.dsts) s.e) (without (d :: l.dsts) s.q) s.r σ' κ) = some res →
        ∃ s', Run E D dr n0 i (((XL.grp t b l d ks (.tmp t) x y r).flat g).zip (XL.grp t b l d ks (.tmp t) x y r).lks) s s' ∧ κ s'.e s'.q s'.r s'.σ = some res ∧ (pw = false → s'.r = s.r) ∧
          (∀ u, memN (XL.grp t b l d ks (.tmp t) x y r).dsts u = false → look s'.e u = look s.e u) ∧ (pw = false → ∀ u, memN (XL.grp t b l d ks (.tmp t) x y r).dsts u = false → look s'.q u = look s.q u) := by
      intro hcb z hz hh
      subst hcb
      obtain ⟨s1, h1, h2, h3, h4, h5⟩ := denL_run l (some []) (some t) (some (t, cb)) false i s _ res hh hl (.inr ⟨t, cb, rfl, rfl, hte, hlt⟩) (fun hd => (mk_grp (hmk hd)).1)
      obtain ⟨v, hv, _, h2⟩ := getK_some h2
      obtain ⟨vb, rfl, h9⟩ := rtBool_some h2
      replace h2 := h9
      refine fin s1 vb h1 (h3 rfl) h4 (h5 rfl) (hz _ ?_ vb hv) h2
      simp only [opv, getE, look_selE hkt, h4 t hlt, hte]
    -- not entered
    have left : (cb == b) = false → ∀ (z : AO), (match z with | .tmp u => !memN l.dsts u | .con _ => true) = true → (∀ e, opv e (.tmp t) = .bool cb → ∀ vb, opv e z = .bool vb → aopP (.pick (.tmp t) x y) e = some (.bool vb)) →
        (getK (selE dr ks s.e) z fun v => rtBool v fun v =>
          denL E D dr pw n0 r (i + l.size + 1) ((d, .bool v) :: without (d :: l.dsts) s.e) (without (d :: l.dsts) s.q) s.r s.σ κ) = some res →
        ∃ s', Run E D dr n0 i (((XL.grp t b l d ks (.tmp t) x y r).flat g).zip (XL.grp t b l d ks (.tmp t) x y r).lks) s s' ∧ κ s'.e s'.q s'.r s'.σ = some res ∧ (pw = false → s'.r = s.r) ∧
          (∀ u, memN (XL.grp t b l d ks (.tmp t) x y r).dsts u = false → look s'.e u = look s.e u) ∧ (pw = false → ∀ u, memN (XL.grp t b l d ks (.tmp t) x y r).dsts u = false → look s'.q u = look s.q u) := by
      intro hcb z hz0 hz h
      obtain ⟨s1, h1, h2, h3, h4, _⟩ := skip_run (E := E) (D := D) (dr := dr) (n0 := n0) l [] t b i s hl (.inr ⟨cb, hte, hcb⟩) hlt (fun u hu => by simp [memN] at hu)
      obtain ⟨v, hv, _, h5⟩ := getK_some h
      obtain ⟨vb, rfl, h9⟩ := rtBool_some h5
      replace h5 := h9
      refine fin s1 vb h1 h2 (fun u hu => (h4 u hu).1) (fun u hu => (h4 u hu).2) (hz _ ?_ vb ?_) (by rw [h3]; exact h5)
      · simp only [opv, getE, look_selE hkt, (h4 t hlt).1, hte]
      · cases z with
        | con v => exact hv
        | tmp u =>
          simp only [Bool.not_eq_true'] at hz0
          simp only [opv, getE] at hv ⊢
          cases hq : look (selE dr ks s.e) u with
          | none => rw [hq] at hv; cases hv
          | some u2 =>
            rw [hq] at hv
            have hq1 : look (selE dr ks s1.e) u = some u2 := by
              cases dr with
              | true =>
                obtain ⟨h6, h7⟩ := look_restr _ _ _ _ hq
                show look (restr ks s1.e) u = _
                rw [look_restr_mem h7, (h4 u hz0).1]; exact h6
              | false =>
                show look s1.e u = _
                rw [(h4 u hz0).1]; exact hq
            rw [hq1]; exact hv
    have hpt : ∀ e, opv e (.tmp t) = .bool true → ∀ vb, opv e x = .bool vb → aopP (.pick (.tmp t) x y) e = some (.bool vb) := by
      intro e h1 vb h2
      simp only [aopP, h1, h2, V.live, if_true]
    have hpf : ∀ e, opv e (.tmp t) = .bool false → ∀ vb, opv e y = .bool vb → aopP (.pick (.tmp t) x y) e = some (.bool vb) := by
      intro e h1 vb h2
      simp only [aopP, h1, h2, V.live, if_true]
    unfold joinB at h
    cases b with
    | true =>
      simp only at h hother
      cases cb with
      | true => exact taken rfl x hpt h
      | false => exact left rfl y hother hpf h
    | false =>
      simp only at h hother
      cases cb with
      | true => exact left rfl x hother hpt h
      | false => exact taken rfl y hpf h
end Go.Og

set_option linter.unusedSimpArgs false
namespace Go.Og
variable {P : Program} {D : Den} {C : Cx} {R : Ren} {σ : H} {w w' : World}

theorem EnvL.put {e : Env} {a : Act} (h : EnvL R e a.tmps) {dst : Option Nat} (hd : dstOk a.tmps.size dst = true) {v : V} {x : Value} (hv : dst = none ∨ conc R v = some x) : EnvL R (putE e dst v) (a.put dst x).tmps := by
  cases dst with
  | none => exact h
  | some d =>
    simp only [dstOk, Nat.blt_eq] at hd
    refine ⟨fun k u hk => ?_⟩
    rw [look_putE] at hk
    simp only [Act.put, Array.getElem?_setIfInBounds]
    by_cases hdk : d = k
    · rw [if_pos (by rw [hdk])] at hk
      cases hk
      rw [if_pos hdk, if_pos hd]
      exact ⟨x, rfl, hv.resolve_left (by simp)⟩
    · rw [if_neg (by simpa using hdk)] at hk
      rw [if_neg hdk]
      exact h.at_ k u hk
theorem EnvL.del {e : Env} {a : Act} (h : EnvL R e a.tmps) (dst : Option Nat) (x : Value) : EnvL R (without1 dst e) (a.put dst x).tmps := by
  refine ⟨fun k u hk => ?_⟩
  rw [look_without1] at hk
  split at hk
  · cases hk
  · rename_i hne
    obtain ⟨y, h1, h2⟩ := h.at_ k u hk
    refine ⟨y, ?_, h2⟩
    cases dst with
    | none => exact h1
    | some d =>
      simp only [Act.put, Array.getElem?_setIfInBounds]
      rw [if_neg (by simpa using hne)]; exact h1
theorem QOk.del {B : Bs} {q : Qs} {a : Act} (h : QOk B q a.tmps) (dst : Option Nat) (x : Value) : QOk B (without1 dst q) (a.put dst x).tmps := by
  refine ⟨fun k m off hk => ?_⟩
  rw [look_without1] at hk
  split at hk
  · cases hk
  · rename_i hne
    obtain ⟨i, h1, h2⟩ := h.at_ k m off hk
    refine ⟨i, h1, ?_⟩
    cases dst with
    | none => exact h2
    | some d =>
      simp only [Act.put, Array.getElem?_setIfInBounds]
      rw [if_neg (by simpa using hne)]; exact h2
theorem QOk.mark {B : Bs} {q : Qs} {a : Act} (h : QOk B q a.tmps) {dst : Option Nat} (hd : dstOk a.tmps.size dst = true) {m off : Nat} {i : BI} (hB : B m = some i) :
    QOk B (putQ (without1 dst q) dst (m, off)) (a.put dst (.pointer (some ⟨i.blk, i.shift + off, none⟩))).tmps := by
  refine ⟨fun k m' off' hk => ?_⟩
  rw [look_putQ] at hk
  by_cases hdk : dst = some k
  · rw [if_pos hdk] at hk
    cases hk
    subst hdk
    simp only [dstOk, Nat.blt_eq] at hd
    exact ⟨i, hB, by simp [Act.put, Array.getElem?_setIfInBounds, hd]⟩
  · rw [if_neg hdk] at hk
    exact (h.del dst _).at_ k m' off' hk

theorem EnvL.sub {e e' : Env} {tmps : Array Value} (h : EnvL R e tmps) (hs : ∀ t v, look e' t = some v → look e t = some v) : EnvL R e' tmps :=
  ⟨fun k v hk => h.at_ k v (hs k v hk)⟩
theorem QOk.sub {B : Bs} {q q' : Qs} {tmps : Array Value} (h : QOk B q tmps) (hs : ∀ t v, look q' t = some v → look q t = some v) : QOk B q' tmps :=
  ⟨fun k m off hk => h.at_ k m off (hs k _ hk)⟩
theorem EnvL.sel {e : Env} {tmps : Array Value} (h : EnvL R e tmps) (dr : Bool) (ks : List Nat) : EnvL R (selE dr ks e) tmps := h.sub fun _ _ hk => selE_sub hk
theorem QOk.sel {B : Bs} {q : Qs} {tmps : Array Value} (h : QOk B q tmps) (dr : Bool) (ks : List Nat) : QOk B (selQ dr ks q) tmps := h.sub fun t v hk => by
  cases dr with
  | true => exact (look_restrQ _ _ _ _ hk).1
  | false => exact hk

/-- A block of the call's own is made. -/
theorem pal_ok {B : Bs} {r : Rg} (hm : MemI C R B r σ w) {a : Act} (o : Oper) {d : Nat} {el : TypeId} {z : List V} (ho : compOp P C.G o.op = .alloc el z) (K : Act → World → Prop) (Q : Exit → Act → World → Prop)
    (hK : ∀ i w', MemI C R (fun m => if m = d then some i else B m) ((d, z) :: without [d] r) σ w' → K (a.put o.dst (.pointer (some ⟨i.blk, i.shift + 0, none⟩))) w') : o.wp P a w K Q := by
  obtain ⟨hrel, hpriv⟩ := hm
  have hg := hrel.globOk
  have ha : aopA (compOp P C.G o.op) [] σ.next = some (.ptr σ.next 0, .cells z) := by rw [ho]; rfl
  have he0 : EnvOk R [] a.tmps := ⟨fun k v hk => by simp [look] at hk⟩
  obtain ⟨x, w', i, hrun, hn, hi, hx, hok⟩ := aopA_ok (a := a) (P := P) he0 hg o ha (hrel.fresh _ (Nat.le_refl _)) w
  have hcp : conc (upd R σ.next i) (.ptr σ.next 0) = some (.pointer (some ⟨i.blk, i.shift + 0, none⟩)) := conc_ptr_mk (upd_same _ _ _)
  rw [hcp] at hx; cases hx
  unfold Oper.wp; rw [hrun]
  have hle : Le R (upd R σ.next i) := (upd_ext R σ.next i).le hrel.fresh
  have hzc : ∃ zs, concs R z = some zs := by
    obtain ⟨dst, op, ty, pos, after, guard⟩ := o
    simp only at ho
    cases op <;> simp only [compOp] at ho <;> (try (first | (cases ho; done) | ((repeat' split at ho) <;> (cases ho; done))))
    · rename_i el' 
      split at ho
      · cases ho
      · rename_i z' _ hz
        simp only [AOp.alloc.injEq] at ho
        rw [← ho.2]
        unfold zeroO at hz
        split at hz
        · split at hz
          · exact ⟨_, absZ_ok R hz⟩
          · cases hz
        · cases hz
      · cases ho
    · rename_i fn _ _; cases fn <;> cases ho
    · rename_i r; cases r <;> cases ho
    · rename_i ok; cases ok
      · cases ho
      · simp only at ho; split at ho <;> cases ho
    · rename_i c
      obtain ⟨callee, cargs, argTypes⟩ := c
      simp only at ho
      split at ho
      · unfold compB at ho; (repeat' split at ho) <;> cases ho
      · cases ho
      · cases ho
      · cases ho
  obtain ⟨zs, hzs⟩ := hzc
  have hokR : OwnOk R i (.cells z) w' := by
    obtain ⟨arr, el', lo, hi', h1, h2, h3, h4, h5⟩ := hok
    refine ⟨arr, el', lo, hi', h1, fun k v hk => ?_, h3, h4, h5⟩
    obtain ⟨y, hy, hone, harr⟩ := h2 k v hk
    obtain ⟨y2, hy2, _⟩ := concs_get hzs hk
    have := conc_mono hle v y2 hy2
    rw [hy] at this; cases this
    exact ⟨_, hy2, hone, harr⟩
  have hO : C.O i.blk := by rw [hi]; exact hrel.new _ hrel.size
  have hrelw : Rel C R σ w' := hrel.frame (fun blk hb _ => hn.old blk hb) (by rw [hn.size]; omega) hn.os hn.tape hn.output
  refine hK i w' ⟨hrelw, ⟨fun m j hm => ?_, fun m m' j j' hm hm' hbl => ?_, fun m j hm k b j' hk hj' hbl => ?_⟩⟩
  · by_cases hmd : m = d
    · subst hmd
      rw [if_pos rfl] at hm; cases hm
      exact ⟨hO, z, by simp [look], hokR⟩
    · rw [if_neg hmd] at hm
      obtain ⟨hO', l, hl, hok'⟩ := hpriv.at_ m j hm
      refine ⟨hO', l, ?_, hok'.mono (Le.refl _) (hn.old _ hok'.lt)⟩
      simp only [look, Nat.beq_eq]
      rw [if_neg (Ne.symm hmd), look_without, if_neg (fun h => hmd ((memN_one d m).1 h).symm)]
      exact hl
  · by_cases hmd : m = d
    · by_cases hmd' : m' = d
      · rw [hmd, hmd']
      · exfalso
        rw [if_pos hmd] at hm; rw [if_neg hmd'] at hm'; cases hm
        have := hpriv.lt hm'; omega
    · by_cases hmd' : m' = d
      · exfalso
        rw [if_neg hmd] at hm; rw [if_pos hmd'] at hm'; cases hm'
        have := hpriv.lt hm; omega
      · rw [if_neg hmd] at hm; rw [if_neg hmd'] at hm'
        exact hpriv.inj m m' j j' hm hm' hbl
  · by_cases hmd : m = d
    · rw [if_pos hmd] at hm; cases hm
      obtain ⟨j2, hj2, _, hok2⟩ := hrel.own k b hk
      rw [hj'] at hj2; cases hj2
      have := hok2.lt; omega
    · rw [if_neg hmd] at hm
      exact hpriv.apart m j hm k b j' hk hj' hbl

/-- What holds between two operations. -/
def InvS (C : Cx) (nR : Nat) (R0 : Ren) (nt : Nat) (s : St) (a : Act) (w : World) : Prop :=
  ∃ R B, Ext nR R0 R ∧ nR ≤ s.σ.next ∧ MemI C R B s.r s.σ w ∧ EnvL R s.e a.tmps ∧ QOk B s.q a.tmps ∧ nt ≤ a.tmps.size ∧ a.defers = []

theorem QOk.pal {B : Bs} {q : Qs} {a : Act} (h : QOk B q a.tmps) {d : Nat} (hd : dstOk a.tmps.size (some d) = true) (i : BI) :
    QOk (fun m => if m = d then some i else B m) ((d, (d, 0)) :: unmark d (without [d] q)) (a.put (some d) (.pointer (some ⟨i.blk, i.shift + 0, none⟩))).tmps := by
  refine ⟨fun k m off hk => ?_⟩
  simp only [look, Nat.beq_eq] at hk
  simp only [dstOk, Nat.blt_eq] at hd
  by_cases hdk : d = k
  · rw [if_pos hdk] at hk
    cases hk
    exact ⟨i, by simp, by simp [Act.put, Array.getElem?_setIfInBounds, hdk, hdk ▸ hd]⟩
  · rw [if_neg hdk] at hk
    obtain ⟨h1, h2⟩ := look_unmark _ _ _ _ hk
    rw [look_without] at h2
    split at h2
    · cases h2
    · obtain ⟨j, h3, h4⟩ := h.at_ k m off h2
      refine ⟨j, by rw [if_neg h1]; exact h3, ?_⟩
      simp only [Act.put, Array.getElem?_setIfInBounds]
      rw [if_neg hdk]; exact h4

theorem run_seq (hD : ∀ f, SoundFn P C.E C.G f (D f)) {nR : Nat} {R0 : Ren} {nt n0 : Nat} {ops : Array Oper} {Q : Exit → Act → World → Prop} :
    ∀ {i : Nat} {fl : List (AOper × List Nat)} {s s' : St}, Run C.E D false n0 i fl s s' → ∀ (l : List Oper) (a : Act) (w : World), l.map (compOper P C.G nt ops) = fl.map Prod.fst → InvS C nR R0 nt s a w →
      (∀ a' w', InvS C nR R0 nt s' a' w' → Q .normal a' w') → wpList P ops Q l a w := by
  intro i fl s s' h
  have good : ∀ (o : Oper) (l : List Oper) (ao : AOper) (fl : List AOper), (o :: l).map (compOper P C.G nt ops) = ao :: fl → (∃ e, ∃ (b : Bool), wantedA e ao.guard = some b ∧ (b = true → ao.op ≠ .bad)) →
      ao.dst = o.dst ∧ ao.op = compOp P C.G o.op ∧ dstOk nt o.dst = true ∧ compG ops o.guard = some ao.guard ∧ l.map (compOper P C.G nt ops) = fl := by
    intro o l ao fl hm ⟨e, b, hw, hb⟩
    simp only [List.map_cons, List.cons.injEq] at hm
    obtain ⟨h1, h2⟩ := hm
    unfold compOper at h1
    split at h1
    · rename_i g hg hd
      subst h1
      exact ⟨rfl, rfl, hd, hg, h2⟩
    · exfalso
      subst h1
      simp only [wantedA, Option.some.injEq] at hw
      exact hb hw.symm rfl
  have nostep : ∀ {pw id nx e q r σ out}, Live e → ¬ Step C.E D pw id nx .bad e q r σ out := by
    intro pw id nx e q r σ out hlive h
    cases h with
    | p v hc h =>
      have := h hlive
      cases this
    | l v hc h => cases hc
    | a v b hc h => cases hc
    | k v σ1 σ2 hc h hs => cases hc
    | mv x m off ho hm => rcases ho with ho | ho <;> cases ho
    | fa d x m off ho hm => cases ho
    | ld x m off l v ho hm hl h => cases ho
    | ldn n x m off l ho hm hl h => cases ho
    | st n x y m off l cs u hw ho hm hl hn hu hlu hcs h1 hlen h => cases ho
  induction h with
  | nil i s =>
    intro l a w hl hI hQ
    cases l with
    | nil => exact hQ a w hI
    | cons o l => simp at hl
  | shrink i fl s s' e q he hq _ ih =>
    intro l a w hl hI hQ
    obtain ⟨R, B, h1, h2, h3, h4, h5, h6, h7⟩ := hI
    exact ih l a w hl ⟨R, B, h1, h2, h3, h4.sub he, h5.sub hq, h6, h7⟩ hQ
  | skip i o ks fl s s' hw _ ih =>
    intro l a w hl hI hQ
    cases l with
    | nil => simp at hl
    | cons oo l =>
      obtain ⟨g1, g2, g3, g4, g5⟩ := good oo l o _ hl ⟨_, false, hw, fun h => by cases h⟩
      obtain ⟨R, B, h1, h2, h3, h4, h5, h6, h7⟩ := hI
      have hdst := dstOk_mono g3 h6
      unfold wpList
      rw [if_neg (by rw [wanted_ok (h4.sel false ks).env g4 hw]; simp)]
      refine ih l _ w g5 ⟨R, B, h1, h2, h3, ?_, ?_, by rw [size_put]; exact h6, by rw [defers_put]; exact h7⟩ hQ
      · rw [g1]; exact h4.put hdst (.inr rfl)
      · rw [g1]; exact h5.del _ _
  | val i o ks fl s s' pw v r' σ' hw hs hlv _ _ ih =>
    intro l a w hl hI hQ
    cases l with
    | nil => simp at hl
    | cons oo l =>
      obtain ⟨R, B, h1, h2, h3, h4, h5, h6, h7⟩ := hI
      obtain ⟨g1, g2, g3, g4, g5⟩ := good oo l o _ hl ⟨_, true, hw, fun _ hb => nostep (h4.sel false ks).live (hb ▸ hs)⟩
      have hdst := dstOk_mono g3 h6
      unfold wpList
      rw [if_pos (wanted_ok (h4.sel false ks).env g4 hw)]
      left
      rw [g2] at hs
      refine step_ok hD h3 (h4.sel false ks) (h5.sel false ks) oo (h3.rel.fresh _ (Nat.le_refl _)) (Nat.lt_succ_self _) (Nat.le_succ _) hs _ Q (fun v2 r2 σ2 heq R' w' x hle hk hn hmem hv => ?_) (fun m off heq => by cases heq)
      cases heq
      have hx : Ext s.σ.next R R' := fun k hk1 => hk k hk1 (by intro he; subst he; exact Nat.lt_irrefl _ hk1)
      refine ih l _ w' g5 ⟨R', B, h1.trans hx h2, Nat.le_trans h2 hn, hmem, ?_, ?_, by rw [size_put]; exact h6, by rw [defers_put]; exact h7⟩ hQ
      · rw [g1] at hlv ⊢
        refine (h4.mono hle).put hdst ?_
        rcases hv with ⟨rfl, hc⟩ | hv
        · rcases hlv with h | h | h
          · exact .inl h
          · cases h
          · rw [g2] at h; exact (h hc).elim
        · exact .inr hv
      · rw [g1]; exact h5.del _ _
  | mark i o ks fl s s' pw id nx m off hw hs _ ih =>
    intro l a w hl hI hQ
    cases l with
    | nil => simp at hl
    | cons oo l =>
      obtain ⟨R, B, h1, h2, h3, h4, h5, h6, h7⟩ := hI
      obtain ⟨g1, g2, g3, g4, g5⟩ := good oo l o _ hl ⟨_, true, hw, fun _ hb => nostep (h4.sel false ks).live (hb ▸ hs)⟩
      have hdst := dstOk_mono g3 h6
      unfold wpList
      rw [if_pos (wanted_ok (h4.sel false ks).env g4 hw)]
      left
      rw [g2] at hs
      have hs2 : Step C.E D pw s.σ.next (s.σ.next + 1) (compOp P C.G oo.op) (selE false ks s.e) (selQ false ks s.q) s.r s.σ (.mark m off) := by
        cases hs with
        | mv x m off ho hm => exact .mv x m off ho hm
        | fa d x m off ho hm => exact .fa d x m off ho hm
      refine step_ok hD h3 (h4.sel false ks) (h5.sel false ks) oo (h3.rel.fresh _ (Nat.le_refl _)) (Nat.lt_succ_self _) (Nat.le_succ _) hs2 _ Q (fun v2 r2 σ2 heq => by cases heq) (fun m2 off2 heq ii hB => ?_)
      cases heq
      refine ih l _ w g5 ⟨R, B, h1, h2, h3, ?_, ?_, by rw [size_put]; exact h6, by rw [defers_put]; exact h7⟩ hQ
      · rw [g1]; exact h4.del _ _
      · rw [g1]; exact h5.mark hdst hB
  | pal i o ks fl s s' d el z hd ho hw _ ih =>
    intro l a w hl hI hQ
    cases l with
    | nil => simp at hl
    | cons oo l =>
      obtain ⟨g1, g2, g3, g4, g5⟩ := good oo l o _ hl ⟨_, true, hw, fun _ hb => by rw [ho] at hb; cases hb⟩
      obtain ⟨R, B, h1, h2, h3, h4, h5, h6, h7⟩ := hI
      have hdst := dstOk_mono g3 h6
      unfold wpList
      rw [if_pos (wanted_ok (h4.sel false ks).env g4 hw)]
      left
      rw [g2] at ho
      rw [hd] at g1
      refine pal_ok h3 oo (d := d) ho _ Q (fun ii w' hmem => ?_)
      rw [← g1] at hdst ⊢
      refine ih l _ w' g5 ⟨R, _, h1, h2, hmem, ?_, ?_, by rw [size_put]; exact h6, by rw [defers_put]; exact h7⟩ hQ
      · exact h4.del (some d) _
      · exact h5.pal hdst ii
end Go.Og

set_option linter.unusedSimpArgs false
namespace Go.Og
variable {P : Program} {E : List (Nat × Blk)} {D : Den} {C : Cx} {R : Ren} {σ : H} {w w' : World}

inductive Oc where
  | val (v : V)
  | mark (m off : Nat)
  | pal (d : Nat) (z : List V)

def SubSt (s2 s1 : St) : Prop := (∀ t v, look s2.e t = some v → look s1.e t = some v) ∧ (∀ t v, look s2.q t = some v → look s1.q t = some v) ∧ s2.r = s1.r ∧ s2.σ = s1.σ
theorem SubSt.refl (s : St) : SubSt s s := ⟨fun _ _ h => h, fun _ _ h => h, rfl, rfl⟩

/-- What the operation o does between two states. -/
inductive At (E : List (Nat × Blk)) (D : Den) (s : St) (o : AOper) (ks : List Nat) : Oc → Bool → St → Prop where
  | skip (s2 : St) (hw : wantedA (selE true ks s.e) o.guard = some false) (h : SubSt s2 ⟨putE s.e o.dst undefV, without1 o.dst s.q, s.r, s.σ⟩) : At E D s o ks (.val undefV) false s2
  | val (s2 : St) (pw : Bool) (v : V) (r' : Rg) (σ' : H) (hw : wantedA (selE true ks s.e) o.guard = some true) (hs : Step E D pw s.σ.next (s.σ.next + 1) o.op (selE true ks s.e) (selQ true ks s.q) s.r s.σ (.val v r' σ'))
      (hl : o.dst = none ∨ v.live = true ∨ o.op.cls ≠ .k) (hna : o.op.cls ≠ .a) (h : SubSt s2 ⟨putE s.e o.dst v, without1 o.dst s.q, r', σ'⟩) : At E D s o ks (.val v) true s2
  | mark (s2 : St) (pw : Bool) (id nx m off : Nat) (hw : wantedA (selE true ks s.e) o.guard = some true) (hs : Step E D pw id nx o.op (selE true ks s.e) (selQ true ks s.q) s.r s.σ (.mark m off))
      (h : SubSt s2 ⟨without1 o.dst s.e, putQ (without1 o.dst s.q) o.dst (m, off), s.r, s.σ⟩) : At E D s o ks (.mark m off) true s2
  | pal (s2 : St) (d : Nat) (el : TypeId) (z : List V) (hd : o.dst = some d) (ho : o.op = .alloc el z) (hw : wantedA (selE true ks s.e) o.guard = some true)
      (h : SubSt s2 ⟨without [d] s.e, (d, (d, 0)) :: unmark d (without [d] s.q), (d, z) :: without [d] s.r, s.σ⟩) : At E D s o ks (.pal d z) true s2

theorem run_chain {n0 : Nat} : ∀ {i : Nat} {fl : List (AOper × List Nat)} {s s' : St}, Run E D true n0 i fl s s' →
    ∃ (sts : Nat → St) (oc : Nat → Oc) (ex : Nat → Bool), SubSt (sts 0) s ∧ s' = sts fl.length ∧ ∀ (k : Nat) (o : AOper) (ks : List Nat), fl[k]? = some (o, ks) → At E D (sts k) o ks (oc k) (ex k) (sts (k + 1)) := by
  intro i fl s s' h
  have cons : ∀ (s s1 : St) (o : AOper) (ks : List Nat) (l : List (AOper × List Nat)) (c : Oc) (x : Bool), (∀ s2, SubSt s2 s1 → At E D s o ks c x s2) →
      (∃ (sts : Nat → St) (oc : Nat → Oc) (ex : Nat → Bool), SubSt (sts 0) s1 ∧ s' = sts l.length ∧ ∀ (k : Nat) (o : AOper) (ks : List Nat), l[k]? = some (o, ks) → At E D (sts k) o ks (oc k) (ex k) (sts (k + 1))) →
      ∃ (sts : Nat → St) (oc : Nat → Oc) (ex : Nat → Bool), SubSt (sts 0) s ∧ s' = sts ((o, ks) :: l).length ∧ ∀ (k : Nat) (o' : AOper) (ks' : List Nat), ((o, ks) :: l)[k]? = some (o', ks') → At E D (sts k) o' ks' (oc k) (ex k) (sts (k + 1)) := by
    rintro s s1 o ks l c x hat ⟨sts, oc, ex, h1, h2, h3⟩
    refine ⟨fun k => Nat.casesOn k s sts, fun k => Nat.casesOn k c oc, fun k => Nat.casesOn k x ex, SubSt.refl s, h2, fun k o' ks' hk => ?_⟩
    cases k with
    | zero =>
      simp only [List.getElem?_cons_zero, Option.some.injEq, Prod.mk.injEq] at hk
      obtain ⟨rfl, rfl⟩ := hk
      exact hat _ h1
    | succ k =>
      simp only [List.getElem?_cons_succ] at hk
      exact h3 k o' ks' hk
  induction h with
  | nil i s => exact ⟨fun _ => s, fun _ => .val .dead, fun _ => false, SubSt.refl s, rfl, fun k o ks hk => by simp at hk⟩
  | skip i o ks l s s' hw _ ih => exact cons s _ o ks l _ _ (fun s2 hs => .skip s2 hw hs) (ih (cons := cons))
  | val i o ks l s s' pw v r' σ' hw hs hl hna _ ih => exact cons s _ o ks l _ _ (fun s2 h2 => .val s2 pw v r' σ' hw hs hl (hna rfl) h2) (ih (cons := cons))
  | mark i o ks l s s' pw id nx m off hw hs _ ih => exact cons s _ o ks l _ _ (fun s2 h2 => .mark s2 pw id nx m off hw hs h2) (ih (cons := cons))
  | pal i o ks l s s' d el z hd ho hw _ ih => exact cons s _ o ks l _ _ (fun s2 h2 => .pal s2 d el z hd ho hw h2) (ih (cons := cons))
  | shrink i l s s' e q he hq _ ih =>
    obtain ⟨sts, oc, ex, h1, h2, h3⟩ := ih (cons := cons)
    exact ⟨sts, oc, ex, ⟨fun t v hv => he t v (h1.1 t v hv), fun t v hv => hq t v (h1.2.1 t v hv), h1.2.2.1, h1.2.2.2⟩, h2, h3⟩

/-- A step, behind which the same cells of the call's own stand. -/
theorem step_move {pw : Bool} {id nx : Nat} {o : AOp} {e : Env} {q : Qs} {r r' rL : Rg} {σ' : H} {v : V} (h : Step E D pw id nx o e q r σ (.val v r' σ')) (hr : ∀ x m off, markX q x = some (m, off) → look rL m = look r m) :
    ∃ rL', Step E D pw id nx o e q rL σ (.val v rL' σ') ∧ ((r' = r ∧ rL' = rL) ∨ ∃ x m off c l, markX q x = some (m, off) ∧ look r m = some l ∧ r' = repl r m c ∧ rL' = repl rL m c) := by
  cases h with
  | p _ hc h => exact ⟨rL, .p v hc h, .inl ⟨rfl, rfl⟩⟩
  | l _ hc h => exact ⟨rL, .l v hc h, .inl ⟨rfl, rfl⟩⟩
  | a _ b hc h => exact ⟨rL, .a v b hc h, .inl ⟨rfl, rfl⟩⟩
  | k _ σ1 _ hc h hs => exact ⟨rL, .k v σ1 σ' hc h hs, .inl ⟨rfl, rfl⟩⟩
  | ld x m off l _ ho hm hl h => exact ⟨rL, .ld x m off l v ho hm (by rw [hr x m off hm]; exact hl) h, .inl ⟨rfl, rfl⟩⟩
  | ldn n x m off l ho hm hl h => exact ⟨rL, .ldn n x m off l ho hm (by rw [hr x m off hm]; exact hl) h, .inl ⟨rfl, rfl⟩⟩
  | st n x y m off l cs u hw ho hm hl hn hu hlu hcs h1 hlen h => exact ⟨_, .st n x y m off l cs u hw ho hm (by rw [hr x m off hm]; exact hl) hn hu hlu hcs h1 hlen h, .inr ⟨x, m, off, _, l, hm, hl, rfl, rfl⟩⟩

/-- A step that writes nothing leaves memory as it was. -/
theorem step_still {pw : Bool} {id nx : Nat} {o : AOp} {e : Env} {q : Qs} {r r' : Rg} {σ' : H} {v : V} (h : Step E D pw id nx o e q r σ (.val v r' σ')) (hk : o.cls ≠ .k) (ha : o.cls ≠ .a) : r' = r ∧ σ' = σ := by
  cases h with
  | p _ hc h => exact ⟨rfl, rfl⟩
  | l _ hc h => exact ⟨rfl, rfl⟩
  | a _ b hc h => exact (ha hc).elim
  | k _ σ1 _ hc h hs => exact (hk hc).elim
  | ld x m off l _ ho hm hl h => exact ⟨rfl, rfl⟩
  | ldn n x m off l ho hm hl h => exact ⟨rfl, rfl⟩
  | st n x y m off l cs u hw ho hm hl hn hu hlu hcs h1 hlen h => exact (hk (by rw [ho]; rfl)).elim

theorem mark_any {pw : Bool} {id nx id' nx' : Nat} {o : AOp} {e : Env} {q : Qs} {r rL : Rg} {σ σL : H} {m off : Nat} (h : Step E D pw id nx o e q r σ (.mark m off)) : Step E D pw id' nx' o e q rL σL (.mark m off) := by
  cases h with
  | mv x _ _ ho hm => exact .mv x m off ho hm
  | fa d x _ off ho hm => exact .fa d x m off ho hm
theorem mark_root {pw : Bool} {id nx : Nat} {o : AOp} {e : Env} {q : Qs} {r : Rg} {m off : Nat} (h : Step E D pw id nx o e q r σ (.mark m off)) : ∃ x off', markX q x = some (m, off') := by
  cases h with
  | mv x _ _ ho hm => exact ⟨x, off, hm⟩
  | fa d x _ off ho hm => exact ⟨x, off, hm⟩

theorem pals_mem : ∀ (l : XL) (g : Option (Nat × Bool)), l.makes = false → ∀ o ∈ l.flat g, ∀ d, o.op.cls = .a → o.dst = some d → memN l.pals d = true
  | .nil, g, h, o, ho, d, hc, hd => by simp [XL.flat] at ho
  | .op dd ty ks op r, g, h, o, ho, d, hc, hd => by
    obtain ⟨h1, h2⟩ := mk_op h
    simp only [XL.flat, List.mem_cons] at ho
    rcases ho with rfl | ho
    · exact (h1 hc).elim
    · exact pals_mem r g h2 o ho d hc hd
  | .pal dd ks el z r, g, h, o, ho, d, hc, hd => by
    simp only [XL.flat, List.mem_cons] at ho
    simp only [XL.pals]
    rw [memN_cons]
    rcases ho with rfl | ho
    · left; simpa using hd
    · right; exact pals_mem r g h o ho d hc hd
  | .grp t b l dd ks c x y r, g, h, o, ho, d, hc, hd => by
    obtain ⟨h1, h2⟩ := mk_grp h
    simp only [XL.flat, List.mem_append, List.mem_cons] at ho
    simp only [XL.pals]
    rw [memN_append]
    rcases ho with ho | rfl | ho
    · left; exact pals_mem l _ h1 o ho d hc hd
    · cases hc
    · right; exact pals_mem r g h2 o ho d hc hd
theorem palsOk_mem {q : Qs} : ∀ {l : List Nat}, palsOk q l = true → ∀ d, memN l d = true → ∀ t off, look q t ≠ some (d, off)
  | [], _, d, hd => by simp [memN] at hd
  | a :: l, h, d, hd => by
    simp only [palsOk, Bool.and_eq_true] at h
    intro t off hl
    rcases (memN_cons a l d).1 hd with rfl | hd
    · have hm : marked a q = [] := by simpa using h.1
      have := marked_not (m := a) (q := q) (t := t) (p := (a, off)) (by rw [hm]; rfl) hl
      exact this rfl
    · exact palsOk_mem h.2 d hd t off hl
end Go.Og
