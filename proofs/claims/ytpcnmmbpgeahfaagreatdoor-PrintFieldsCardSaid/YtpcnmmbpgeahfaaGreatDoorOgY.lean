/- The second evaluator: its parts answer what the first one's answer. -/
import Derived.Test.YtpcnmmbpgeahfaaGreatDoorOgX
set_option linter.unusedSimpArgs false
namespace Go.Og

/-! ### lists -/
theorem lookF_nil {α : Type} (id : Nat) : lookF ([] : List (Nat × α)) id = none := rfl
theorem lookF_cons {α : Type} (p : Nat × α) (l : List (Nat × α)) (id : Nat) : lookF (p :: l) id = if p.1 = id then some p.2 else lookF l id := by
  show (Bool.rec (motive := fun _ => Option α) (lookF l id) (some p.2) (Nat.beq p.1 id)) = _
  by_cases h : p.1 = id
  · have hb : Nat.beq p.1 id = true := by rw [Nat.beq_eq]; exact h
    rw [if_pos h, hb]
  · rw [if_neg h]
    have : Nat.beq p.1 id = false := Bool.eq_false_iff.2 (by rw [ne_eq, Nat.beq_eq]; exact h)
    rw [this]
theorem lookF_eq {α : Type} (l : List (Nat × α)) (id : Nat) : lookF l id = look l id := by
  induction l with
  | nil => rfl
  | cons p l ih =>
    obtain ⟨k, b⟩ := p
    rw [lookF_cons, ih]
    simp only [look, Nat.beq_eq]
theorem drop1_cons {α : Type} (p : Nat × α) (l : List (Nat × α)) (id : Nat) : drop1 (p :: l) id = if p.1 = id then l else p :: drop1 l id := by
  show (Bool.rec (motive := fun _ => List (Nat × α)) (p :: drop1 l id) l (Nat.beq p.1 id)) = _
  by_cases h : p.1 = id
  · have hb : Nat.beq p.1 id = true := by rw [Nat.beq_eq]; exact h
    rw [if_pos h, hb]
  · rw [if_neg h]
    have : Nat.beq p.1 id = false := Bool.eq_false_iff.2 (by rw [ne_eq, Nat.beq_eq]; exact h)
    rw [this]
theorem look_drop1 {α : Type} (l : List (Nat × α)) (id k : Nat) (h : id ≠ k) : look (drop1 l id) k = look l k := by
  induction l with
  | nil => rfl
  | cons p l ih =>
    obtain ⟨m, b⟩ := p
    rw [drop1_cons]
    by_cases hm : m = id
    · rw [if_pos hm]; simp only [look, Nat.beq_eq]; rw [if_neg (by omega)]
    · rw [if_neg hm]; simp only [look, Nat.beq_eq, ih]
theorem nthF_eq (l : List V) (n : Nat) : nthF l n = l[n]? := by
  induction l generalizing n with
  | nil => rfl
  | cons a l ih =>
    cases n with
    | zero => rfl
    | succ n => exact ih n
theorem forceD_eq (l : List (Nat × Blk)) (id : Nat) (κ : List (Nat × Blk) → Ans) : forceD l id κ = κ (drop l id) := by
  induction l generalizing κ with
  | nil => rfl
  | cons p l ih =>
    obtain ⟨k, b⟩ := p
    show forceD l id (fun l' => Bool.rec (motive := fun _ => Ans) (κ ((k, b) :: l')) (κ l') (Nat.beq k id)) = _
    rw [ih]
    simp only [drop]
    cases hb : Nat.beq k id <;> simp [hb]

theorem chk_some {c : Bool} {a : Ans} {r : V × H} (h : chk c a = some r) : c = true ∧ a = some r := by
  cases c with
  | true => exact ⟨rfl, h⟩
  | false => cases h
theorem condK_true (a b : Ans) : condK true a b = a := rfl
theorem condK_false (a b : Ans) : condK false a b = b := rfl
theorem gK_some {x : Option V} {κ : V → Ans} {r : V × H} (h : gK x κ = some r) : ∃ v, x = some v ∧ κ v = some r := by
  cases x with
  | none => cases h
  | some v => exact ⟨v, rfl, h⟩
theorem callK_some {x : Ans} {κ : V → H → Ans} {r : V × H} (h : callK x κ = some r) : ∃ v σ, x = some (v, σ) ∧ κ v σ = some r := by
  cases x with
  | none => cases h
  | some p => exact ⟨p.1, p.2, rfl, h⟩

/-! ### numbers -/
theorem wrap_in {k : IntKind} {n : Int} (h : inK k n = true) : k.wrap n = n := by
  unfold IntKind.wrap
  cases n with
  | ofNat m =>
    simp only [inK, Nat.ble_eq] at h
    cases k <;> simp only [maxN] at h <;> simp only [IntKind.signed, IntKind.bits, Int.ofNat_eq_natCast] <;> simp <;> omega
  | negSucc m =>
    simp only [inK, Nat.blt_eq] at h
    cases k <;> simp only [negN] at h <;> (first | omega | skip) <;> simp only [IntKind.signed, IntKind.bits, Int.negSucc_eq] <;> simp <;> omega
theorem wrapF_eq (k : IntKind) (n : Int) : wrapF k n = k.wrap n := by
  unfold wrapF
  cases h : inK k n with
  | true => exact (wrap_in h).symm
  | false => rfl
theorem ltF_eq (a b : Int) : ltF a b = decide (a < b) := by
  cases a <;> cases b <;> simp only [ltF] <;> (rw [Bool.eq_iff_iff]; simp [Nat.blt_eq]) <;> omega
theorem leF_eq (a b : Int) : leF a b = decide (a ≤ b) := by
  cases a <;> cases b <;> simp only [leF] <;> (rw [Bool.eq_iff_iff]; simp [Nat.ble_eq]) <;> omega
theorem addF_eq (k : IntKind) (a b : Int) : addF k a b = k.wrap (a + b) := wrapF_eq k _
theorem subF_eq (k : IntKind) (a b : Int) : subF k a b = k.wrap (a - b) := wrapF_eq k _
theorem mulF_eq (k : IntKind) (a b : Int) : mulF k a b = k.wrap (a * b) := wrapF_eq k _
theorem quoF_eq (k : IntKind) (a b : Int) : quoF k a b = k.wrap (a.tdiv b) := wrapF_eq k _
theorem negF_eq (k : IntKind) (a : Int) : negF k a = k.wrap (0 - a) := wrapF_eq k _
theorem shlF_eq (k : IntKind) (a : Int) (n : Nat) : shlF k a n = k.wrap (a * 2 ^ (Nat.min n k.bits)) := by
  unfold shlF
  rw [wrapF_eq]
  have h : (Int.ofNat (Nat.pow 2 (Nat.min n k.bits))) = (2 : Int) ^ (Nat.min n k.bits) := by
    show ((2 ^ (Nat.min n k.bits) : Nat) : Int) = _
    rw [Int.natCast_pow]; rfl
  rw [h]; rfl
theorem shrF_eq (k : IntKind) (a : Int) (n : Nat) : shrF k a n = a.fdiv (2 ^ (Nat.min n k.bits)) := by
  cases a with
  | ofNat m =>
    have h : (2 : Int) ^ (Nat.min n k.bits) = ((2 ^ (Nat.min n k.bits) : Nat) : Int) := by rw [Int.natCast_pow]; rfl
    rw [h]
    show ((m / 2 ^ (Nat.min n k.bits) : Nat) : Int) = Int.fdiv ((m : Nat) : Int) _
    rw [Int.fdiv_eq_ediv_of_nonneg _ (Int.natCast_nonneg _), Int.natCast_ediv]
  | negSucc m => rfl

theorem maxN_pow (k : IntKind) : ∃ p, maxN k + 1 = 2 ^ p ∧ p ≤ k.bits := by
  cases k
  · exact ⟨7, rfl, by decide⟩
  · exact ⟨15, rfl, by decide⟩
  · exact ⟨31, rfl, by decide⟩
  · exact ⟨63, rfl, by decide⟩
  · exact ⟨8, rfl, by decide⟩
  · exact ⟨16, rfl, by decide⟩
  · exact ⟨32, rfl, by decide⟩
  · exact ⟨64, rfl, by decide⟩
theorem bv_small {k : IntKind} {m : Nat} (h : m ≤ maxN k) : (BitVec.ofInt k.bits (Int.ofNat m)).toNat = m := by
  obtain ⟨p, hp, hb⟩ := maxN_pow k
  have h1 : m < 2 ^ k.bits := Nat.lt_of_lt_of_le (by omega) (Nat.pow_le_pow_right (by decide) hb)
  have : BitVec.ofInt k.bits (Int.ofNat m) = BitVec.ofNat k.bits m := by
    show BitVec.ofInt k.bits ((m : Nat) : Int) = _
    rw [BitVec.ofInt_natCast]
  rw [this, BitVec.toNat_ofNat, Nat.mod_eq_of_lt h1]
theorem small_ok {k : IntKind} {a b : Int} {f : Nat → Nat → Nat} {g : Int} (h : ∀ m n, a = .ofNat m → b = .ofNat n → m ≤ maxN k → n ≤ maxN k → g = .ofNat (f m n)) : smallK k a b f g = g := by
  unfold smallK
  split
  · rename_i m n
    cases hc : (Nat.ble m (maxN k) && Nat.ble n (maxN k)) with
    | true =>
      simp only [Bool.and_eq_true, Nat.ble_eq] at hc
      exact (h m n rfl rfl hc.1 hc.2).symm
    | false => rfl
  · rfl
theorem wrap_nat {k : IntKind} {m : Nat} (h : m ≤ maxN k) : k.wrap (m : Int) = .ofNat m := wrap_in (n := .ofNat m) (by simpa [inK] using h)
theorem andF_eq (k : IntKind) (a b : Int) : andF k a b = k.wrap (BitVec.ofInt k.bits a &&& BitVec.ofInt k.bits b).toNat := by
  refine small_ok fun m n ha hb hm hn => ?_
  subst ha hb
  rw [BitVec.toNat_and, bv_small hm, bv_small hn]
  exact wrap_nat (Nat.le_trans Nat.and_le_left hm)
theorem orF_eq (k : IntKind) (a b : Int) : orF k a b = k.wrap (BitVec.ofInt k.bits a ||| BitVec.ofInt k.bits b).toNat := by
  refine small_ok fun m n ha hb hm hn => ?_
  subst ha hb
  obtain ⟨p, hp, _⟩ := maxN_pow k
  rw [BitVec.toNat_or, bv_small hm, bv_small hn]
  refine wrap_nat ?_
  have := Nat.or_lt_two_pow (x := m) (y := n) (n := p) (by omega) (by omega)
  omega
theorem xorF_eq (k : IntKind) (a b : Int) : xorF k a b = k.wrap (BitVec.ofInt k.bits a ^^^ BitVec.ofInt k.bits b).toNat := by
  refine small_ok fun m n ha hb hm hn => ?_
  subst ha hb
  obtain ⟨p, hp, _⟩ := maxN_pow k
  rw [BitVec.toNat_xor, bv_small hm, bv_small hn]
  refine wrap_nat ?_
  have := Nat.xor_lt_two_pow (x := m) (y := n) (n := p) (by omega) (by omega)
  omega

theorem nnK_some {b : Int} {κ : Nat → Ans} {r : V × H} (h : nnK b κ = some r) : 0 ≤ b ∧ κ b.toNat = some r := by
  cases b with
  | ofNat n => exact ⟨Int.natCast_nonneg n, h⟩
  | negSucc n => cases h
theorem nzK_some {b : Int} {a : Ans} {r : V × H} (h : nzK b a = some r) : b ≠ 0 ∧ a = some r := by
  unfold nzK at h
  split at h
  · cases h
  · rename_i hb; exact ⟨fun h0 => hb (by rw [h0]; rfl), h⟩
theorem intX_some {op : BinOp} {t : ETag} {k k' : IntKind} {a b : Int} {κ : V → Ans} {r : V × H} (h : intX op k k' a b κ = some r) : ∃ v, binV op t (.int k a) (.int k' b) = some v ∧ κ v = some r := by
  cases op
  case shl =>
    obtain ⟨h1, h2⟩ := nnK_some h
    refine ⟨_, ?_, h2⟩
    simp only [binV, shiftI]
    rw [if_neg (by omega), shlF_eq]; rfl
  case shr =>
    obtain ⟨h1, h2⟩ := nnK_some h
    refine ⟨_, ?_, h2⟩
    simp only [binV, shiftI]
    rw [if_neg (by omega), shrF_eq]; rfl
  all_goals
    simp only [intX] at h
    split at h
    · rename_i hk
      simp only [binV]
      rw [if_pos hk]
      first
        | (refine ⟨_, ?_, h⟩; simp only [arith, cmpInt, addF_eq, subF_eq, mulF_eq, andF_eq, orF_eq, xorF_eq, andNotF, eqF_eq, ltF_eq, leF_eq]; rfl)
        | (obtain ⟨h1, h2⟩ := nzK_some h
           refine ⟨_, ?_, h2⟩
           simp only [arith]
           rw [if_neg h1]
           first | rfl | (rw [quoF_eq]; rfl))
    · cases h
theorem catK_some {a b : BS} {κ : BS → Ans} {r : V × H} (h : catK a b κ = some r) : Nat.ble (Nat.add a.len b.len) 1000000000000 = true ∧ κ (a.cat b) = some r := by
  unfold catK at h
  split at h
  · rename_i hc; exact ⟨hc, h⟩
  · cases h
theorem strX_some {op : BinOp} {t : ETag} {a b : BS} {κ : V → Ans} {r : V × H} (h : strX op a b κ = some r) : ∃ v, binV op t (.str a) (.str b) = some v ∧ κ v = some r := by
  cases op
  case add =>
    have h' : catK a b (fun s => κ (.str s)) = some r := h
    obtain ⟨h1, h2⟩ := catK_some h'
    exact ⟨_, by simp only [binV, strOp, h1], h2⟩
  all_goals first
    | exact ⟨_, rfl, h⟩
    | cases h
theorem eqK_some {t : ETag} {x y : V} {κ : Bool → Ans} {r : V × H} (h : eqK t x y κ = some r) : ∃ b, eqTag t x y = some b ∧ κ b = some r := by
  unfold eqK at h
  split at h
  · exact ⟨_, ‹_›, h⟩
  · cases h
theorem eqTag_shape {t : ETag} {x y : V} {b : Bool} (h : eqTag t x y = some b) : (∀ k n k' m, x = .int k n → y = .int k' m → False) ∧ (∀ l m, x = .str l → y = .str m → False) := by
  constructor
  · rintro k n k' m rfl rfl; cases t <;> (first | cases h | (rename_i b; cases b <;> cases h))
  · rintro l m rfl rfl; cases t <;> (first | cases h | (rename_i b; cases b <;> cases h))
theorem binX_some {op : BinOp} {t : ETag} {x y : V} {κ : V → Ans} {r : V × H} (h : binX op t x y κ = some r) : ∃ v, binV op t x y = some v ∧ κ v = some r := by
  have eqs : ∀ (t : ETag), eqX op t x y κ = some r → ∃ v, binV op t x y = some v ∧ κ v = some r := by
    intro t h
    unfold eqX at h
    split at h
    · obtain ⟨b, h1, h2⟩ := eqK_some h
      obtain ⟨h3, h4⟩ := eqTag_shape h1
      refine ⟨_, ?_, h2⟩
      unfold binV
      split
      · exact (h3 _ _ _ _ rfl rfl).elim
      · exact (h4 _ _ rfl rfl).elim
      · simp only [h1]; rfl
    · obtain ⟨b, h1, h2⟩ := eqK_some h
      obtain ⟨h3, h4⟩ := eqTag_shape h1
      refine ⟨_, ?_, h2⟩
      unfold binV
      split
      · exact (h3 _ _ _ _ rfl rfl).elim
      · exact (h4 _ _ rfl rfl).elim
      · simp only [h1]; rfl
    · cases h
  cases t with
  | none =>
    simp only [binX] at h
    split at h
    · exact intX_some h
    · exact strX_some h
    · cases h
  | bool => exact eqs _ h
  | ptr => exact eqs _ h
  | slice => exact eqs _ h
  | map => exact eqs _ h
  | func => exact eqs _ h
  | iface b => exact eqs _ h
  | flat l => exact eqs _ h
theorem unX_some {op : UnOp} {x : V} {κ : V → Ans} {r : V × H} (h : unX op x κ = some r) : ∃ v, unV op x = some v ∧ κ v = some r := by
  unfold unX at h
  split at h
  · exact ⟨_, by simp only [unV, negF_eq], h⟩
  · exact ⟨_, rfl, h⟩
  · exact ⟨_, rfl, h⟩
  · cases h

/-! ### types -/
theorem rtInt_some {k : IntKind} {v : V} {κ : Int → Ans} {r : V × H} (h : rtInt k v κ = some r) : ∃ n, v = .int k n ∧ κ n = some r := by
  unfold rtInt at h
  split at h
  · split at h
    · rename_i hk; subst hk; exact ⟨_, rfl, h⟩
    · cases h
  · cases h
theorem rtBool_some {v : V} {κ : Bool → Ans} {r : V × H} (h : rtBool v κ = some r) : ∃ b, v = .bool b ∧ κ b = some r := by
  unfold rtBool at h
  split at h
  · exact ⟨_, rfl, h⟩
  · cases h
theorem rtStr_some {v : V} {κ : BS → Ans} {r : V × H} (h : rtStr v κ = some r) : ∃ s, v = .str s ∧ κ s = some r := by
  unfold rtStr at h
  split at h
  · exact ⟨_, rfl, h⟩
  · cases h
theorem rtPtr_some {v : V} {κ : Nat → Nat → Ans} {r : V × H} (h : rtPtr v κ = some r) : ∃ b o, v = .ptr b o ∧ κ b o = some r := by
  unfold rtPtr at h
  split at h
  · exact ⟨_, _, rfl, h⟩
  · cases h
theorem rtAgg_some {v : V} {κ : List V → Ans} {r : V × H} (h : rtAgg v κ = some r) : ∃ l, v = .agg l ∧ κ l = some r := by
  unfold rtAgg at h
  split at h
  · exact ⟨_, rfl, h⟩
  · cases h
theorem rtTup_some {v : V} {κ : List V → Ans} {r : V × H} (h : rtTup v κ = some r) : ∃ l, v = .tup l ∧ κ l = some r := by
  unfold rtTup at h
  split at h
  · exact ⟨_, rfl, h⟩
  · cases h
theorem rtCons_some {l : List V} {κ : V → List V → Ans} {r : V × H} (h : rtCons l κ = some r) : ∃ v m, l = v :: m ∧ κ v m = some r := by
  unfold rtCons at h
  split at h
  · exact ⟨_, _, rfl, h⟩
  · cases h
theorem rtNil_some {l : List V} {a : Ans} {r : V × H} (h : rtNil l a = some r) : l = [] ∧ a = some r := by
  unfold rtNil at h
  split at h
  · exact ⟨rfl, h⟩
  · cases h
theorem rtOne_some {v : V} {a : Ans} {r : V × H} (h : rtOne v a = some r) : v.one = true ∧ a = some r := by
  unfold rtOne at h
  split at h
  · exact ⟨‹_›, h⟩
  · cases h
mutual
theorem rt_some : ∀ (ty : XTy) (v : V) (κ : V → Ans) (r : V × H), rt ty v κ = some r → κ v = some r
  | .any, v, κ, r, h => by simpa only [rt] using h
  | .int k, v, κ, r, h => by simp only [rt] at h; obtain ⟨n, rfl, h2⟩ := rtInt_some h; exact h2
  | .bool, v, κ, r, h => by simp only [rt] at h; obtain ⟨n, rfl, h2⟩ := rtBool_some h; exact h2
  | .str, v, κ, r, h => by simp only [rt] at h; obtain ⟨n, rfl, h2⟩ := rtStr_some h; exact h2
  | .ptr, v, κ, r, h => by simp only [rt] at h; obtain ⟨b, o, rfl, h2⟩ := rtPtr_some h; exact h2
  | .one, v, κ, r, h => by simp only [rt] at h; exact (rtOne_some h).2
  | .agg ts, v, κ, r, h => by simp only [rt] at h; obtain ⟨l, rfl, h2⟩ := rtAgg_some h; exact rts_some ts l _ r h2
  | .tup ts, v, κ, r, h => by simp only [rt] at h; obtain ⟨l, rfl, h2⟩ := rtTup_some h; exact rts_some ts l _ r h2
theorem rts_some : ∀ (ts : List XTy) (l : List V) (κ : List V → Ans) (r : V × H), rts ts l κ = some r → κ l = some r
  | [], l, κ, r, h => by simp only [rts] at h; obtain ⟨rfl, h2⟩ := rtNil_some h; exact h2
  | t :: ts, l, κ, r, h => by
    simp only [rts] at h
    obtain ⟨v, m, rfl, h⟩ := rtCons_some h
    have := rt_some t v _ r h
    exact rts_some ts m _ r this
end
end Go.Og

set_option linter.unusedSimpArgs false
namespace Go.Og

def Live (e : Env) : Prop := ∀ t v, look e t = some v → v.live = true

theorem getK_some {e : Env} {x : AO} {κ : V → Ans} {r : V × H} (h : getK e x κ = some r) : ∃ v, opv e x = v ∧ (Live e → v.live = true) ∧ κ v = some r := by
  unfold getK at h
  split at h
  · rename_i v
    split at h
    · exact ⟨v, rfl, fun _ => ‹_›, h⟩
    · cases h
  · rename_i t
    cases hl : look e t with
    | none => rw [hl] at h; cases h
    | some v =>
      rw [hl] at h
      exact ⟨v, by simp only [opv, getE, hl], fun he => he t v hl, h⟩
theorem getsK_some {e : Env} : ∀ (l : List AO) (κ : List V → Ans) (r : V × H), getsK e l κ = some r → (Live e → (opvs e l).all V.live = true) ∧ κ (opvs e l) = some r
  | [], κ, r, h => ⟨fun _ => rfl, h⟩
  | x :: l, κ, r, h => by
    simp only [getsK] at h
    obtain ⟨v, hv, hl, h⟩ := getK_some h
    obtain ⟨h1, h2⟩ := getsK_some l _ r h
    subst hv
    exact ⟨fun he => by simp only [opvs, List.map_cons, List.all_cons, hl he, Bool.true_and]; exact h1 he, h2⟩
theorem getoK_some {e : Env} {x : Option AO} {κ : Option V → Ans} {r : V × H} (h : getoK e x κ = some r) : κ (opvo e x) = some r := by
  cases x with
  | none => exact h
  | some x =>
    obtain ⟨v, hv, _, h⟩ := getK_some h
    subst hv; exact h
theorem partsK_some {e : Env} : ∀ (l : List (Nat × Nat × AO)) (κ : List (Nat × Nat × V) → Ans) (r : V × H), partsK e l κ = some r → κ (parts e l) = some r
  | [], κ, r, h => h
  | (o, s, x) :: l, κ, r, h => by
    simp only [partsK] at h
    obtain ⟨v, hv, _, h⟩ := getK_some h
    have := partsK_some l _ r h
    subst hv; exact this
theorem nthK_some {l : List V} {n : Nat} {κ : V → Ans} {r : V × H} (h : nthK l n κ = some r) : ∃ v, l[n]? = some v ∧ κ v = some r := by
  unfold nthK at h
  rw [nthF_eq] at h
  split at h
  · exact ⟨_, ‹_›, h⟩
  · cases h
theorem subK_some {l : List V} {off n : Nat} {κ : List V → Ans} {r : V × H} (h : subK l off n κ = some r) : Nat.ble (off + n) l.length = true ∧ κ ((l.drop off).take n) = some r := by
  unfold subK at h
  split at h
  · exact ⟨‹_›, h⟩
  · cases h
theorem rdK_some {E : List (Nat × Blk)} {σ : H} {b : Nat} {κ : List V → Ans} {r : V × H} (h : rdK E σ b κ = some r) : ∃ l, rd E σ b = some l ∧ κ l = some r := by
  unfold rdK at h
  rw [lookF_eq] at h
  unfold rd
  split at h
  · rename_i hb; rw [hb]; exact ⟨_, rfl, h⟩
  · cases h
  · rename_i hb
    rw [lookF_eq] at h
    rw [hb]
    split at h
    · rename_i he; rw [he]; exact ⟨_, rfl, h⟩
    · cases h
theorem boundK_some {o : Option V} {d : Nat} {κ : Nat → Ans} {r : V × H} (h : boundK o d κ = some r) : ∃ n, bnd o d = some n ∧ κ n = some r := by
  unfold boundK at h
  split at h
  · exact ⟨d, rfl, h⟩
  · split at h
    · obtain ⟨h1, h2⟩ := nnK_some h
      exact ⟨_, by simp only [bnd, if_pos h1], h2⟩
    · cases h
theorem slenK_some {v : V} {κ : Nat → Ans} {r : V × H} (h : slenK v κ = some r) : ∃ n : Nat, κ n = some r ∧ ∀ e x, opv e x = v → aopP (.len false x) e = some (.int .i64 n) := by
  unfold slenK at h
  split at h
  · exact ⟨0, h, fun e x hx => by simp only [aopP, hx]; rfl⟩
  · exact ⟨_, h, fun e x hx => by simp only [aopP, hx]⟩
  · exact ⟨0, h, fun e x hx => by simp only [aopP, hx]; rfl⟩
  · cases h
theorem srcK_some {E : List (Nat × Blk)} {σ : H} {esz : Nat} {v : V} {κ : Nat → List V → Ans} {r : V × H} (h : srcK E σ esz v κ = some r) : ∃ n l, srcCells E σ esz v = some (n, l) ∧ κ n l = some r := by
  unfold srcK at h
  split at h
  · exact ⟨_, _, rfl, h⟩
  · exact ⟨_, _, rfl, h⟩
  · obtain ⟨l, h1, h2⟩ := rdK_some h
    obtain ⟨h3, h4⟩ := subK_some h2
    exact ⟨_, _, by simp only [srcCells, rdN, h1, h3, if_true]; rfl, h4⟩
  · split at h
    · rename_i he
      rw [Nat.beq_eq] at he
      exact ⟨_, _, by simp only [srcCells, if_pos he], h⟩
    · cases h
  · cases h

/-- σ2 is σ1, but for what is in it no more. -/
structure SubH (σ2 σ1 : H) : Prop where
  next : σ2.next = σ1.next
  sub : ∀ k b, look σ2.bl k = some b → look σ1.bl k = some b
theorem SubH.refl (σ : H) : SubH σ σ := ⟨rfl, fun _ _ h => h⟩

theorem look_setF (σ : H) (b : Nat) (c : Blk) (k : Nat) : look (setF σ b c).bl k = if b = k then some c else look σ.bl k := by
  simp only [setF, look, Nat.beq_eq]
  by_cases h : b = k
  · rw [if_pos h, if_pos h]
  · rw [if_neg h, if_neg h, look_drop1 _ _ _ h]
theorem setF_sub {σ : H} {b : Nat} {c d : Blk} (h : look σ.bl b = some d) : SubH (setF σ b c) (σ.set b c) := by
  refine ⟨rfl, fun k u hk => ?_⟩
  rw [look_setF] at hk
  simp only [H.set, look_repl]
  by_cases he : b = k
  · subst he; rw [if_pos rfl] at hk; rw [if_pos rfl, h]; exact hk
  · rw [if_neg he] at hk; rw [if_neg he]; exact hk
theorem stK_some {n b off : Nat} {v : V} {σ : H} {κ : H → Ans} {r : V × H} (h : stK n b off v σ κ = some r) :
    ∃ σ1 σ2, κ σ2 = some r ∧ SubH σ2 σ1 ∧ ∀ (E : List (Nat × Blk)) (e : Env) (x y : AO), opv e x = .ptr b off → opv e y = v → aopK E (.store n x y) e σ = some (.dead, σ1) := by
  unfold stK at h
  rw [lookF_eq] at h
  split at h
  · rename_i l hb
    obtain ⟨hc, h⟩ := chk_some h
    refine ⟨_, _, h, setF_sub hb, fun E e x y hx hy => ?_⟩
    have hc' : (Nat.beq v.cells.length n && Nat.ble (off + n) l.length && allOne v.cells) = true := hc
    simp only [aopK, hx, hy, hb]
    rw [if_pos hc']
  · cases h
theorem appK_some {E : List (Nat × Blk)} {esz bytes : Nat} {s x : V} {σ : H} {κ : V → H → Ans} {r : V × H} (h : appK E esz bytes s x σ κ = some r) :
    ∃ v σ1, appendV E esz bytes s x σ = some (v, σ1) ∧ κ v σ1 = some r := by
  unfold appK at h
  obtain ⟨n, new, h1, h⟩ := srcK_some h
  split at h
  · rename_i b len e
    split at h
    · exact ⟨_, _, by simp only [appendV, h1]; rfl, h⟩
    · rename_i hn
      split at h
      · rename_i l hb
        rw [lookF_eq] at hb
        obtain ⟨hc, h⟩ := chk_some h
        rw [forceD_eq] at h
        refine ⟨_, _, ?_, h⟩
        simp only [appendV, h1]
        rw [if_neg (by omega), hb]
        simp only
        rw [if_pos hc]
        rfl
      · cases h
  · obtain ⟨v, σ1, h2, h3⟩ := callK_some h
    exact ⟨v, σ1, h2, h3⟩

theorem fillK_some {l : List (Nat × Nat × V)} {z : List V} {κ : List V → Ans} {r : V × H} (h : fillK l z κ = some r) : ∃ l', fillA l z = some l' ∧ κ l' = some r := by
  unfold fillK at h
  split at h
  · exact ⟨_, ‹_›, h⟩
  · cases h
theorem valX_ok {E : List (Nat × Blk)} {D : Den} {id nx : Nat} {o : AOp} {e : Env} {σ : H} {κ : V → H → Ans} {r : V × H} (h : valX E D id nx o e σ κ = some r) :
    (o.cls = .p ∧ ∃ v, (Live e → aopP o e = some v) ∧ κ v σ = some r) ∨ (o.cls = .l ∧ ∃ v, (Live e → aopL E o e σ = some v) ∧ κ v σ = some r) ∨
    (o.cls = .a ∧ ∃ v b, (Live e → aopA o e id = some (v, b)) ∧ κ v ⟨nx, (id, b) :: σ.bl⟩ = some r) ∨
    (o.cls = .k ∧ ∃ v σ1 σ2, (Live e → den1 E D o e σ = some (v, σ1)) ∧ SubH σ2 σ1 ∧ κ v σ2 = some r) := by
  have P : ∀ {v}, o.cls = .p → (Live e → aopP o e = some v) → κ v σ = some r → (o.cls = .p ∧ ∃ v, (Live e → aopP o e = some v) ∧ κ v σ = some r) ∨ (o.cls = .l ∧ ∃ v, (Live e → aopL E o e σ = some v) ∧ κ v σ = some r) ∨
    (o.cls = .a ∧ ∃ v b, (Live e → aopA o e id = some (v, b)) ∧ κ v ⟨nx, (id, b) :: σ.bl⟩ = some r) ∨
    (o.cls = .k ∧ ∃ v σ1 σ2, (Live e → den1 E D o e σ = some (v, σ1)) ∧ SubH σ2 σ1 ∧ κ v σ2 = some r) := fun h1 h2 h3 => .inl ⟨h1, _, h2, h3⟩
  have L : ∀ {v}, o.cls = .l → (Live e → aopL E o e σ = some v) → κ v σ = some r → (o.cls = .p ∧ ∃ v, (Live e → aopP o e = some v) ∧ κ v σ = some r) ∨ (o.cls = .l ∧ ∃ v, (Live e → aopL E o e σ = some v) ∧ κ v σ = some r) ∨
    (o.cls = .a ∧ ∃ v b, (Live e → aopA o e id = some (v, b)) ∧ κ v ⟨nx, (id, b) :: σ.bl⟩ = some r) ∨
    (o.cls = .k ∧ ∃ v σ1 σ2, (Live e → den1 E D o e σ = some (v, σ1)) ∧ SubH σ2 σ1 ∧ κ v σ2 = some r) := fun h1 h2 h3 => .inr (.inl ⟨h1, _, h2, h3⟩)
  have A : ∀ {v b}, o.cls = .a → (Live e → aopA o e id = some (v, b)) → κ v ⟨nx, (id, b) :: σ.bl⟩ = some r → (o.cls = .p ∧ ∃ v, (Live e → aopP o e = some v) ∧ κ v σ = some r) ∨ (o.cls = .l ∧ ∃ v, (Live e → aopL E o e σ = some v) ∧ κ v σ = some r) ∨
    (o.cls = .a ∧ ∃ v b, (Live e → aopA o e id = some (v, b)) ∧ κ v ⟨nx, (id, b) :: σ.bl⟩ = some r) ∨
    (o.cls = .k ∧ ∃ v σ1 σ2, (Live e → den1 E D o e σ = some (v, σ1)) ∧ SubH σ2 σ1 ∧ κ v σ2 = some r) := fun h1 h2 h3 => .inr (.inr (.inl ⟨h1, _, _, h2, h3⟩))
  have K : ∀ {v σ1 σ2}, o.cls = .k → (Live e → den1 E D o e σ = some (v, σ1)) → SubH σ2 σ1 → κ v σ2 = some r → (o.cls = .p ∧ ∃ v, (Live e → aopP o e = some v) ∧ κ v σ = some r) ∨ (o.cls = .l ∧ ∃ v, (Live e → aopL E o e σ = some v) ∧ κ v σ = some r) ∨
    (o.cls = .a ∧ ∃ v b, (Live e → aopA o e id = some (v, b)) ∧ κ v ⟨nx, (id, b) :: σ.bl⟩ = some r) ∨
    (o.cls = .k ∧ ∃ v σ1 σ2, (Live e → den1 E D o e σ = some (v, σ1)) ∧ SubH σ2 σ1 ∧ κ v σ2 = some r) := fun h1 h2 h3 h4 => .inr (.inr (.inr ⟨h1, _, _, _, h2, h3, h4⟩))
  cases o with
  | mov x =>
    simp only [valX] at h
    obtain ⟨v, hv, hl, h⟩ := getK_some h
    exact P rfl (fun he => by simp only [aopP, hv, hl he, if_true]) h
  | bin op t x y =>
    simp only [valX] at h
    obtain ⟨v, hv, hl, h⟩ := getK_some h
    obtain ⟨u, hu, _, h⟩ := getK_some h
    obtain ⟨w, hw, h⟩ := binX_some h
    exact P rfl (fun he => by simp only [aopP, hv, hu, hw]) h
  | un op x =>
    simp only [valX] at h
    obtain ⟨v, hv, hl, h⟩ := getK_some h
    obtain ⟨w, hw, h⟩ := unX_some h
    exact P rfl (fun he => by simp only [aopP, hv, hw]) h
  | conv t x =>
    cases t with
    | toInt k =>
      simp only [valX] at h
      obtain ⟨v, hv, hl, h⟩ := getK_some h
      split at h
      · rw [wrapF_eq] at h; exact P rfl (fun he => by simp only [aopP, hv]) h
      · cases h
    | same =>
      simp only [valX] at h
      obtain ⟨v, hv, hl, h⟩ := getK_some h
      obtain ⟨s, rfl, h9⟩ := rtStr_some h
      replace h := h9
      exact P rfl (fun he => by simp only [aopP, hv]) h
    | toBytes el =>
      simp only [valX] at h
      obtain ⟨v, hv, hl, h⟩ := getK_some h
      obtain ⟨s, rfl, h9⟩ := rtStr_some h
      replace h := h9
      obtain ⟨hc, h⟩ := chk_some h
      exact A rfl (fun he => by simp only [aopA, hv, hc, if_true]) h
    | toStr =>
      simp only [valX] at h
      obtain ⟨v, hv, hl, h⟩ := getK_some h
      unfold toStrK at h
      split at h
      · cases h
      · rename_i hns
        obtain ⟨n, l, h1, h2⟩ := srcK_some h
        split at h2
        · rename_i s hs
          have hnot : (opv e x).isStr = false := by
            rw [hv]
            cases v <;> first | rfl | (exact (hns _ rfl).elim)
          refine L rfl (fun he => ?_) h2
          simp only [aopL, hnot]
          rw [hv, h1]
          simp [hs]
        · cases h2
    | bad => simp only [valX] at h; cases h
  | nilck x =>
    simp only [valX] at h
    obtain ⟨v, hv, hl, h⟩ := getK_some h
    obtain ⟨b, o, rfl, h9⟩ := rtPtr_some h
    replace h := h9
    exact P rfl (fun he => by simp only [aopP, hv]) h
  | faddr off x =>
    simp only [valX] at h
    obtain ⟨v, hv, hl, h⟩ := getK_some h
    obtain ⟨b, o, rfl, h9⟩ := rtPtr_some h
    replace h := h9
    exact P rfl (fun he => by simp only [aopP, hv]; rfl) h
  | field off n x =>
    cases n with
    | none =>
      simp only [valX] at h
      obtain ⟨v, hv, hl, h⟩ := getK_some h
      obtain ⟨l, rfl, h9⟩ := rtAgg_some h
      replace h := h9
      obtain ⟨u, hu, h⟩ := nthK_some h
      exact P rfl (fun he => by simp only [aopP, hv, hu]) h
    | some n =>
      simp only [valX] at h
      obtain ⟨v, hv, hl, h⟩ := getK_some h
      obtain ⟨l, rfl, h9⟩ := rtAgg_some h
      replace h := h9
      obtain ⟨hu, h⟩ := subK_some h
      exact P rfl (fun he => by simp only [aopP, hv, hu, if_true]) h
  | extract i x =>
    simp only [valX] at h
    obtain ⟨v, hv, hl, h⟩ := getK_some h
    obtain ⟨l, rfl, h9⟩ := rtTup_some h
    replace h := h9
    obtain ⟨u, hu, h⟩ := nthK_some h
    exact P rfl (fun he => by simp only [aopP, hv, hu]) h
  | iaddrS esz x i =>
    simp only [valX] at h
    obtain ⟨v, hv, hl, h⟩ := getK_some h
    obtain ⟨u, hu, _, h⟩ := getK_some h
    split at h
    · unfold iaddrSK at h
      split at h
      · obtain ⟨h1, h⟩ := nnK_some h
        obtain ⟨h2, h⟩ := chk_some h
        simp only [Nat.blt_eq] at h2
        exact P rfl (fun he => by simp only [aopP, hv, hu]; rw [if_pos ⟨h1, by omega⟩]; rfl) h
      · cases h
    · cases h
  | iaddrA len esz x i =>
    simp only [valX] at h
    obtain ⟨v, hv, hl, h⟩ := getK_some h
    obtain ⟨u, hu, _, h⟩ := getK_some h
    split at h
    · obtain ⟨b, o, rfl, h9⟩ := rtPtr_some h
      replace h := h9
      obtain ⟨h1, h⟩ := nnK_some h
      obtain ⟨h2, h⟩ := chk_some h
      simp only [Nat.blt_eq] at h2
      exact P rfl (fun he => by simp only [aopP, hv, hu]; rw [if_pos ⟨h1, by omega⟩]; rfl) h
    · cases h
  | idxStr x i =>
    simp only [valX] at h
    obtain ⟨v, hv, hl, h⟩ := getK_some h
    obtain ⟨u, hu, _, h⟩ := getK_some h
    obtain ⟨s, rfl, h9⟩ := rtStr_some h
    replace h := h9
    split at h
    · obtain ⟨h1, h⟩ := nnK_some h
      obtain ⟨h2, h⟩ := chk_some h
      exact P rfl (fun he => by simp only [aopP, hv, hu]; rw [if_pos h1, if_pos h2]; rfl) h
    · cases h
  | len b x =>
    cases b with
    | true =>
      simp only [valX] at h
      obtain ⟨v, hv, hl, h⟩ := getK_some h
      obtain ⟨s, rfl, h9⟩ := rtStr_some h
      replace h := h9
      exact P rfl (fun he => by simp only [aopP, hv]; rfl) h
    | false =>
      simp only [valX] at h
      obtain ⟨v, hv, hl, h⟩ := getK_some h
      obtain ⟨n, h1, h2⟩ := slenK_some h
      exact P rfl (fun _ => h2 e x hv) h1
  | lenC n => simp only [valX] at h; exact P rfl (fun he => by simp only [aopP]; rfl) h
  | sliceStr x lo hi =>
    simp only [valX] at h
    obtain ⟨v, hv, hl, h⟩ := getK_some h
    have h := getoK_some h
    have h := getoK_some h
    obtain ⟨s, rfl, h9⟩ := rtStr_some h
    replace h := h9
    unfold sliceStrX at h
    obtain ⟨a, ha, h⟩ := boundK_some h
    obtain ⟨b, hb, h⟩ := boundK_some h
    obtain ⟨hc, h⟩ := chk_some h
    exact P rfl (fun he => by simp only [aopP, hv, sliceStrV, ha, hb, hc, if_true]) h
  | sliceSl esz x lo hi mx =>
    simp only [valX] at h
    obtain ⟨v, hv, hl, h⟩ := getK_some h
    have h := getoK_some h
    have h := getoK_some h
    have h := getoK_some h
    obtain ⟨u, hu, h⟩ := gK_some h
    exact P rfl (fun he => by simp only [aopP, hv, hu]) h
  | sliceArr n esz x lo hi mx =>
    simp only [valX] at h
    obtain ⟨v, hv, hl, h⟩ := getK_some h
    have h := getoK_some h
    have h := getoK_some h
    have h := getoK_some h
    obtain ⟨u, hu, h⟩ := gK_some h
    exact P rfl (fun he => by simp only [aopP, hv, hu]) h
  | mkifc t x =>
    simp only [valX] at h
    obtain ⟨v, hv, hl, h⟩ := getK_some h
    exact P rfl (fun he => by simp only [aopP, hv, hl he, if_true]) h
  | mkfn f a c =>
    simp only [valX] at h
    obtain ⟨h1, h⟩ := getsK_some _ _ _ h
    obtain ⟨h2, h⟩ := getsK_some _ _ _ h
    exact P rfl (fun he => by simp only [aopP, h1 he, h2 he, Bool.and_self, if_true]) h
  | build z ps =>
    simp only [valX] at h
    have h := partsK_some _ _ _ h
    obtain ⟨l', hf, h⟩ := fillK_some h
    exact P rfl (fun he => by simp only [aopP, hf]) h
  | cap x =>
    simp only [valX] at h
    obtain ⟨v, hv, hl, h⟩ := getK_some h
    split at h
    · exact P rfl (fun he => by simp only [aopP, hv]) h
    · exact P rfl (fun he => by simp only [aopP, hv]; rfl) h
    · cases h
  | min x l =>
    simp only [valX] at h
    obtain ⟨v, hv, hl, h⟩ := getK_some h
    obtain ⟨_, h⟩ := getsK_some _ _ _ h
    obtain ⟨u, hu, h⟩ := gK_some h
    split at h
    · exact P rfl (fun he => by simp only [aopP, hv, hu]) h
    · cases h
  | max x l =>
    simp only [valX] at h
    obtain ⟨v, hv, hl, h⟩ := getK_some h
    obtain ⟨_, h⟩ := getsK_some _ _ _ h
    obtain ⟨u, hu, h⟩ := gK_some h
    split at h
    · exact P rfl (fun he => by simp only [aopP, hv, hu]) h
    · cases h
  | load n x =>
    cases n with
    | none =>
      simp only [valX] at h
      obtain ⟨v, hv, hl, h⟩ := getK_some h
      obtain ⟨b, o, rfl, h9⟩ := rtPtr_some h
      replace h := h9
      obtain ⟨l, hr, h⟩ := rdK_some h
      obtain ⟨u, hu, h⟩ := nthK_some h
      exact L rfl (fun he => by simp only [aopL, hv, hr, hu]) h
    | some n =>
      simp only [valX] at h
      obtain ⟨v, hv, hl, h⟩ := getK_some h
      obtain ⟨b, o, rfl, h9⟩ := rtPtr_some h
      replace h := h9
      obtain ⟨l, hr, h⟩ := rdK_some h
      obtain ⟨hu, h⟩ := subK_some h
      exact L rfl (fun he => by simp only [aopL, hv, rdN, hr, hu, if_true]) h
  | alloc el z => simp only [valX] at h; exact A rfl (fun he => by simp only [aopA]) h
  | box el x =>
    simp only [valX] at h
    obtain ⟨v, hv, hl, h⟩ := getK_some h
    obtain ⟨hc, h⟩ := chk_some h
    exact A rfl (fun he => by simp only [aopA, hv, hl he, hc, Bool.and_self, if_true]) h
  | buildSlice el n z ps =>
    simp only [valX] at h
    have h := partsK_some _ _ _ h
    obtain ⟨l', hf, h⟩ := fillK_some h
    obtain ⟨hc, h⟩ := chk_some h
    exact A rfl (fun he => by simp only [aopA, hf, hc, if_true]) h
  | mkslice el esz bytes z len cap =>
    simp only [valX] at h
    obtain ⟨v, hv, _, h⟩ := getK_some h
    obtain ⟨u, hu, _, h⟩ := getK_some h
    split at h
    · obtain ⟨h1, h⟩ := nnK_some h
      obtain ⟨h2, h⟩ := nnK_some h
      obtain ⟨hc, h⟩ := chk_some h
      simp only [Bool.and_eq_true, Nat.ble_eq] at hc
      obtain ⟨⟨c1, c2⟩, c3⟩ := hc
      refine A rfl (fun he => ?_) h
      simp only [aopA, hv, hu]
      have hcb : ∀ c : Int, 0 ≤ c → c * bytes = ((c.toNat * bytes : Nat) : Int) := fun c h2 => by rw [Int.natCast_mul, Int.toNat_of_nonneg h2]
      rw [if_pos ⟨h1, by omega, by rw [hcb _ h2]; omega, by omega⟩]
    · cases h
  | store n x v =>
    simp only [valX] at h
    obtain ⟨p, hp, _, h⟩ := getK_some h
    obtain ⟨u, hu, _, h⟩ := getK_some h
    obtain ⟨b, o, rfl, h9⟩ := rtPtr_some h
    replace h := h9
    obtain ⟨σ1, σ2, h1, h2, h3⟩ := stK_some h
    exact K rfl (fun he => by simp only [den1, aop, AOp.cls]; exact h3 E e x v hp hu) h2 h1
  | append el esz bytes s x =>
    simp only [valX] at h
    obtain ⟨p, hp, _, h⟩ := getK_some h
    obtain ⟨u, hu, _, h⟩ := getK_some h
    obtain ⟨v, σ1, h1, h2⟩ := appK_some h
    exact K rfl (fun he => by simp only [den1, aop, AOp.cls, aopK, hp, hu]; exact h1) (SubH.refl _) h2
  | copy esz d s =>
    simp only [valX] at h
    obtain ⟨p, hp, _, h⟩ := getK_some h
    obtain ⟨u, hu, _, h⟩ := getK_some h
    obtain ⟨v, σ1, h1, h2⟩ := callK_some h
    exact K rfl (fun he => by simp only [den1, aop, AOp.cls]; rw [copyV_eq, hp, hu]; exact h1) (SubH.refl _) h2
  | call f args =>
    simp only [valX] at h
    obtain ⟨h1, h⟩ := getsK_some _ _ _ h
    obtain ⟨v, σ1, h2, h3⟩ := callK_some h
    exact K rfl (fun he => by simp only [den1, h1 he, if_true]; exact h2) (SubH.refl _) h3
  | callv f args =>
    simp only [valX] at h
    obtain ⟨p, hp, _, h⟩ := getK_some h
    obtain ⟨h1, h⟩ := getsK_some _ _ _ h
    unfold callvK at h
    split at h
    · obtain ⟨v, σ1, h2, h3⟩ := callK_some h
      exact K rfl (fun he => by simp only [den1, hp, h1 he, if_true]; exact h2) (SubH.refl _) h3
    · cases h
  | mkmap => simp only [valX] at h; exact A rfl (fun he => by simp only [aopA]) h
  | lookup t z m x =>
    simp only [valX] at h
    obtain ⟨p, hp, _, h⟩ := getK_some h
    obtain ⟨u, hu, _, h⟩ := getK_some h
    obtain ⟨v, hv, h⟩ := gK_some h
    exact L rfl (fun he => by simp only [aopL, hp, hu]; exact hv) h
  | mapset t m k v =>
    simp only [valX] at h
    obtain ⟨p, hp, _, h⟩ := getK_some h
    obtain ⟨u, hu, _, h⟩ := getK_some h
    obtain ⟨x, hx, _, h⟩ := getK_some h
    obtain ⟨y, σ1, h1, h2⟩ := callK_some h
    exact K rfl (fun he => by simp only [den1, aop, AOp.cls, aopK, hp, hu, hx]; exact h1) (SubH.refl _) h2
  | alloc0 el => simp only [valX] at h; exact A rfl (fun he => by simp only [aopA]) h
  | box0 el x =>
    simp only [valX] at h
    obtain ⟨v, hv, hl, h⟩ := getK_some h
    split at h
    · exact A rfl (fun he => by simp only [aopA, hv]) h
    · cases h
  | load0 x =>
    simp only [valX] at h
    obtain ⟨v, hv, hl, h⟩ := getK_some h
    obtain ⟨b, o, rfl, h9⟩ := rtPtr_some h
    replace h := h9
    exact P rfl (fun he => by simp only [aopP, hv]) h
  | store0 x v =>
    simp only [valX] at h
    obtain ⟨p, hp, _, h⟩ := getK_some h
    obtain ⟨u, hu, _, h⟩ := getK_some h
    split at h
    · exact K rfl (fun he => by simp only [den1, aop, AOp.cls, aopK, hp, hu]) (SubH.refl _) h
    · cases h
  | faddr0 t x =>
    simp only [valX] at h
    obtain ⟨p, hp, _, h⟩ := getK_some h
    obtain ⟨v, hv, h⟩ := gK_some h
    exact L rfl (fun he => by simp only [aopL, hp]; exact hv) h
  | idxArr n esz s x i =>
    cases s with
    | none =>
      simp only [valX] at h
      obtain ⟨p, hp, _, h⟩ := getK_some h
      obtain ⟨u, hu, _, h⟩ := getK_some h
      obtain ⟨l, rfl, h9⟩ := rtAgg_some h
      replace h := h9
      split at h
      · obtain ⟨h1, h⟩ := nnK_some h
        obtain ⟨hc, h⟩ := chk_some h
        obtain ⟨v, hv, h⟩ := nthK_some h
        simp only [Nat.blt_eq] at hc
        exact P rfl (fun he => by simp only [aopP, hp, hu, fieldV]; rw [if_pos ⟨h1, by omega⟩]; exact hv) h
      · cases h
    | some s =>
      simp only [valX] at h
      obtain ⟨p, hp, _, h⟩ := getK_some h
      obtain ⟨u, hu, _, h⟩ := getK_some h
      obtain ⟨l, rfl, h9⟩ := rtAgg_some h
      replace h := h9
      split at h
      · obtain ⟨h1, h⟩ := nnK_some h
        obtain ⟨hc, h⟩ := chk_some h
        obtain ⟨hv, h⟩ := subK_some h
        simp only [Nat.blt_eq] at hc
        exact P rfl (fun he => by simp only [aopP, hp, hu, fieldV]; rw [if_pos ⟨h1, by omega⟩]; simp only [Nat.mul_eq] at hv ⊢; rw [if_pos hv]) h
      · cases h
  | pick c a b => simp only [valX] at h; cases h
  | bad => simp only [valX] at h; cases h
end Go.Og

set_option linter.unusedSimpArgs false
namespace Go.Og

inductive Out where
  | val (v : V) (r : Rg) (σ : H)
  | mark (m off : Nat)

/-- What an operation leaves. -/
inductive Step (E : List (Nat × Blk)) (D : Den) (pw : Bool) (id nx : Nat) (o : AOp) (e : Env) (q : Qs) (r : Rg) (σ : H) : Out → Prop where
  | p (v : V) (hc : o.cls = .p) (h : Live e → aopP o e = some v) : Step E D pw id nx o e q r σ (.val v r σ)
  | l (v : V) (hc : o.cls = .l) (h : Live e → aopL E o e σ = some v) : Step E D pw id nx o e q r σ (.val v r σ)
  | a (v : V) (b : Blk) (hc : o.cls = .a) (h : Live e → aopA o e id = some (v, b)) : Step E D pw id nx o e q r σ (.val v r ⟨nx, (id, b) :: σ.bl⟩)
  | k (v : V) (σ1 σ2 : H) (hc : o.cls = .k) (h : Live e → den1 E D o e σ = some (v, σ1)) (hs : SubH σ2 σ1) : Step E D pw id nx o e q r σ (.val v r σ2)
  | mv (x : AO) (m off : Nat) (ho : o = .mov x ∨ o = .nilck x) (hm : markX q x = some (m, off)) : Step E D pw id nx o e q r σ (.mark m off)
  | fa (d : Nat) (x : AO) (m off : Nat) (ho : o = .faddr d x) (hm : markX q x = some (m, off)) : Step E D pw id nx o e q r σ (.mark m (off + d))
  | ld (x : AO) (m off : Nat) (l : List V) (v : V) (ho : o = .load none x) (hm : markX q x = some (m, off)) (hl : look r m = some l) (h : l[off]? = some v) : Step E D pw id nx o e q r σ (.val v r σ)
  | ldn (n : Nat) (x : AO) (m off : Nat) (l : List V) (ho : o = .load (some n) x) (hm : markX q x = some (m, off)) (hl : look r m = some l) (h : off + n ≤ l.length) : Step E D pw id nx o e q r σ (.val (.agg ((l.drop off).take n)) r σ)
  | st (n : Nat) (x y : AO) (m off : Nat) (l cs : List V) (u : V) (hw : pw = true) (ho : o = .store n x y) (hm : markX q x = some (m, off)) (hl : look r m = some l) (hn : markX q y = none) (hu : opv e y = u) (hlu : Live e → u.live = true)
      (hcs : cs = u.cells) (h1 : allOne cs = true) (hlen : cs.length = n) (h : off + n ≤ l.length) : Step E D pw id nx o e q r σ (.val .dead (repl r m (spl l off cs)) σ)

theorem one_cells {v : V} (h : v.one = true) : v.cells = [v] := by cases v <;> first | rfl | cases h
theorem cellsK_some {ty : XTy} {v : V} {κ : List V → Ans} {r : V × H} (h : cellsK ty v κ = some r) : allOne v.cells = true ∧ κ v.cells = some r := by
  unfold cellsK at h
  split at h
  · obtain ⟨l, rfl, h2⟩ := rtAgg_some h
    obtain ⟨hc, h2⟩ := chk_some h2
    exact ⟨hc, h2⟩
  · obtain ⟨h1, h2⟩ := rtOne_some h
    rw [one_cells h1]
    exact ⟨by simp [allOne, h1], h2⟩

theorem rt_live {ty : XTy} {v : V} {κ : V → Ans} {r : V × H} (h : rt ty v κ = some r) (hk : ty.known = true) : v.live = true := by
  cases ty with
  | any => cases hk
  | int k => simp only [rt] at h; obtain ⟨n, rfl, _⟩ := rtInt_some h; rfl
  | bool => simp only [rt] at h; obtain ⟨n, rfl, _⟩ := rtBool_some h; rfl
  | str => simp only [rt] at h; obtain ⟨n, rfl, _⟩ := rtStr_some h; rfl
  | ptr => simp only [rt] at h; obtain ⟨b, o, rfl, _⟩ := rtPtr_some h; rfl
  | one => simp only [rt] at h; have := (rtOne_some h).1; cases v <;> first | rfl | cases this
  | agg ts => simp only [rt] at h; obtain ⟨l, rfl, _⟩ := rtAgg_some h; rfl
  | tup ts => simp only [rt] at h; obtain ⟨l, rfl, _⟩ := rtTup_some h; rfl

/-- The answer of an operation is one that it leaves; what is put into a temporary is alive, if the class is one that may leave what is dead. -/
theorem opX_some {E : List (Nat × Blk)} {D : Den} {pw : Bool} {id nx : Nat} {o : AOp} {ty : XTy} {e : Env} {q : Qs} {r : Rg} {σ : H} {κ : V → Rg → H → Ans} {κm : Nat → Nat → Ans} {res : V × H}
    (h : opX E D pw id nx o ty e q r σ κ κm = some res) :
    ∃ out, Step E D pw id nx o e q r σ out ∧ (match out with
      | .val v r' σ' => κ v r' σ' = some res ∧ ((∃ n x y, o = .store n x y) ∨ o.cls ≠ .k ∨ ty.known = false ∨ v.live = true)
      | .mark m off => κm m off = some res) := by
  have gen : (valX E D id nx o e σ fun v σ' => rt ty v fun v' => κ v' r σ') = some res → ∃ out, Step E D pw id nx o e q r σ out ∧ (match out with
      | .val v r' σ' => κ v r' σ' = some res ∧ ((∃ n x y, o = .store n x y) ∨ o.cls ≠ .k ∨ ty.known = false ∨ v.live = true)
      | .mark m off => κm m off = some res) := by
    intro h
    rcases valX_ok h with ⟨hc, v, h1, h2⟩ | ⟨hc, v, h1, h2⟩ | ⟨hc, v, b, h1, h2⟩ | ⟨hc, v, σ1, σ2, h1, h2, h3⟩
    · exact ⟨_, .p v hc h1, rt_some _ _ _ _ h2, .inr (.inl (by rw [hc]; intro h; cases h))⟩
    · exact ⟨_, .l v hc h1, rt_some _ _ _ _ h2, .inr (.inl (by rw [hc]; intro h; cases h))⟩
    · exact ⟨_, .a v b hc h1, rt_some _ _ _ _ h2, .inr (.inl (by rw [hc]; intro h; cases h))⟩
    · refine ⟨_, .k v σ1 σ2 hc h1 h2, rt_some _ _ _ _ h3, ?_⟩
      cases hk : ty.known with
      | false => exact .inr (.inr (.inl rfl))
      | true => exact .inr (.inr (.inr (rt_live h3 hk)))
  have np : ∀ {c : Cls}, c = .p ∨ c = .l → c ≠ .k := by rintro c (rfl | rfl) <;> (intro h; cases h)
  cases o with
  | mov x =>
    simp only [opX] at h
    split at h
    · rename_i m off hm; exact ⟨_, .mv x m off (.inl rfl) hm, h⟩
    · exact gen h
  | nilck x =>
    simp only [opX] at h
    split at h
    · rename_i m off hm; exact ⟨_, .mv x m off (.inr rfl) hm, h⟩
    · exact gen h
  | faddr d x =>
    simp only [opX] at h
    split at h
    · rename_i m off hm; exact ⟨_, .fa d x m off rfl hm, h⟩
    · exact gen h
  | load n x =>
    cases n with
    | none =>
      simp only [opX] at h
      split at h
      · rename_i m off hm
        split at h
        · rename_i l hl
          obtain ⟨v, hv, h⟩ := nthK_some h
          exact ⟨_, .ld x m off l v rfl hm hl hv, rt_some _ _ _ _ h, .inr (.inl (by intro h; cases h))⟩
        · cases h
      · exact gen h
    | some n =>
      simp only [opX] at h
      split at h
      · rename_i m off hm
        split at h
        · rename_i l hl
          obtain ⟨hv, h⟩ := subK_some h
          exact ⟨_, .ldn n x m off l rfl hm hl (by simpa using hv), rt_some _ _ _ _ h, .inr (.inl (by intro h; cases h))⟩
        · cases h
      · exact gen h
  | store n x v =>
    simp only [opX] at h
    split at h
    · rename_i m off hm
      split at h
      · rename_i l hl
        split at h
        · rename_i hn
          obtain ⟨u, hu, hlu, h⟩ := getK_some h
          obtain ⟨h1, h⟩ := cellsK_some h
          obtain ⟨hc, h⟩ := chk_some h
          simp only [Bool.and_eq_true, Nat.beq_eq, Nat.ble_eq] at hc
          exact ⟨_, .st n x v m off l u.cells u rfl rfl hm hl hn hu hlu rfl h1 hc.1 hc.2, h, .inl ⟨n, x, v, rfl⟩⟩
        · cases h
      · cases h
    · have h : (valX E D id nx (.store n x v) e σ fun v σ' => κ v r σ') = some res := h
      rcases valX_ok h with ⟨hc, v, h1, h2⟩ | ⟨hc, v, h1, h2⟩ | ⟨hc, v, b, h1, h2⟩ | ⟨hc, v, σ1, σ2, h1, h2, h3⟩
      · cases hc
      · cases hc
      · cases hc
      · exact ⟨_, .k v σ1 σ2 hc h1 h2, h3, .inl ⟨_, _, _, rfl⟩⟩
  | _ => exact gen (by simpa only [opX] using h)
end Go.Og

set_option linter.unusedSimpArgs false
namespace Go.Og
variable {P : Program} {D : Den} {C : Cx} {R : Ren} {σ : H} {w w' : World}

abbrev Bs := Nat → Option BI

/-- The blocks of the call's own. -/
structure Priv (C : Cx) (R : Ren) (B : Bs) (r : Rg) (σ : H) (w : World) : Prop where
  at_ : ∀ m i, B m = some i → C.O i.blk ∧ ∃ l, look r m = some l ∧ OwnOk R i (.cells l) w
  inj : ∀ m m' i i', B m = some i → B m' = some i' → i.blk = i'.blk → m = m'
  apart : ∀ m i, B m = some i → ∀ id b j, look σ.bl id = some b → R id = some j → j.blk ≠ i.blk

structure EnvL (R : Ren) (e : Env) (tmps : Array Value) : Prop where
  at_ : ∀ (k : Nat) (v : V), look e k = some v → ∃ x, tmps[k]? = some x ∧ conc R v = some x
structure QOk (B : Bs) (q : Qs) (tmps : Array Value) : Prop where
  at_ : ∀ (k m off : Nat), look q k = some (m, off) → ∃ i, B m = some i ∧ tmps[k]? = some (.pointer (some ⟨i.blk, i.shift + off, none⟩))

theorem live_of_conc {v : V} {x : Value} (h : conc R v = some x) : v.live = true := by
  cases v <;> first | rfl | (simp [conc] at h)
theorem EnvL.env {e : Env} {tmps : Array Value} (h : EnvL R e tmps) : EnvOk R e tmps := ⟨fun k v hk => .inr (h.at_ k v hk)⟩
theorem EnvL.live {e : Env} {tmps : Array Value} (h : EnvL R e tmps) : Live e := fun t v ht => by
  obtain ⟨x, _, hx⟩ := h.at_ t v ht
  exact live_of_conc hx
theorem EnvL.mono {R' : Ren} {e : Env} {tmps : Array Value} (h : EnvL R e tmps) (hle : Le R R') : EnvL R' e tmps :=
  ⟨fun k v hk => by obtain ⟨x, h1, h2⟩ := h.at_ k v hk; exact ⟨x, h1, conc_mono hle v x h2⟩⟩

/-- The same, in a world in which only blocks have turned that are none of these. -/
theorem Rel.frame (h : Rel C R σ w) (hold : ∀ blk, blk < w.heap.size → ((∃ id b j, look σ.bl id = some b ∧ R id = some j ∧ j.blk = blk) ∨ ¬ C.O blk) → w'.heap[blk]? = w.heap[blk]?)
    (hsz : w.heap.size ≤ w'.heap.size) (hos : w'.os = w.os) (htape : w'.tape = w.tape) (hout : w'.output = w.output) : Rel C R σ w' := by
  refine ⟨h.fresh, ?_, h.inj, ?_, h.glob, ?_, Nat.le_trans h.size hsz, h.new, hos.trans h.os, htape.trans h.tape, hout.trans h.output⟩
  · intro id b hb
    obtain ⟨i, hi, hO, hok⟩ := h.own id b hb
    exact ⟨i, hi, hO, hok.mono (Le.refl _) (hold _ hok.lt (.inl ⟨id, b, i, hb, hi, rfl⟩))⟩
  · intro id b hb
    obtain ⟨i, hi, hn, hok⟩ := h.ext id b hb
    refine ⟨i, hi, hn, hok.mono (Le.refl _) (hold _ ?_ (.inr hn))⟩
    rcases Nat.lt_or_ge i.blk w.heap.size with hl | hl
    · exact hl
    · exact absurd (h.new _ (Nat.le_trans h.size hl)) hn
  · intro blk hn
    rw [← h.fr blk hn]
    rcases Nat.lt_or_ge blk w.heap.size with hl | hl
    · exact hold _ hl (.inr hn)
    · exact absurd (h.new _ (Nat.le_trans h.size hl)) hn

theorem Priv.mono {R' : Ren} {B : Bs} {r : Rg} {σ' : H} (h : Priv C R B r σ w) (hle : Le R R') (hold : ∀ m i, B m = some i → w'.heap[i.blk]? = w.heap[i.blk]?)
    (hap : ∀ m i, B m = some i → ∀ id b j, look σ'.bl id = some b → R' id = some j → j.blk ≠ i.blk) : Priv C R' B r σ' w' where
  at_ m i hm := by
    obtain ⟨hO, l, hl, hok⟩ := h.at_ m i hm
    exact ⟨hO, l, hl, hok.mono hle (hold m i hm)⟩
  inj := h.inj
  apart := hap
theorem Priv.lt {B : Bs} {r : Rg} (h : Priv C R B r σ w) {m : Nat} {i : BI} (hm : B m = some i) : i.blk < w.heap.size := by
  obtain ⟨_, l, _, hok⟩ := h.at_ m i hm
  exact hok.lt

/-- One block of the call's own, as a heap. -/
theorem Priv.one (h : Rel C R σ w) {B : Bs} {r : Rg} (hp : Priv C R B r σ w) {m : Nat} {i : BI} (hm : B m = some i) {l : List V} (hl : look r m = some l) :
    Rel { C with O := fun blk => blk = i.blk ∨ w.heap.size ≤ blk, w0 := w } (upd R σ.next i) ⟨σ.next + 1, [(σ.next, .cells l)]⟩ w := by
  have hle : Le R (upd R σ.next i) := (upd_ext R σ.next i).le h.fresh
  obtain ⟨hO, l', hl', hok⟩ := hp.at_ m i hm
  rw [hl] at hl'; cases hl'
  have hsub : ∀ blk, (blk = i.blk ∨ w.heap.size ≤ blk) → C.O blk := by
    rintro blk (rfl | hg)
    · exact hO
    · exact h.new _ (Nat.le_trans h.size hg)
  have hlook : ∀ id b, look [(σ.next, Blk.cells l)] id = some b → id = σ.next ∧ b = .cells l := by
    intro id b hb
    simp only [look, Nat.beq_eq] at hb
    split at hb
    · rename_i he; cases hb; exact ⟨he.symm, rfl⟩
    · cases hb
  refine ⟨?_, ?_, ?_, ?_, ?_, fun _ _ => rfl, Nat.le_refl _, fun _ hb => .inr hb, rfl, rfl, rfl⟩
  · intro id hid
    have hid' : σ.next + 1 ≤ id := hid
    rw [upd_other (by omega)]; exact h.fresh id (by omega)
  · intro id b hb
    obtain ⟨rfl, rfl⟩ := hlook id b hb
    exact ⟨i, upd_same _ _ _, .inl rfl, hok.mono hle rfl⟩
  · intro id id' b b' j j' hb hb' _ _ _
    rw [(hlook id b hb).1, (hlook id' b' hb').1]
  · intro id b hb
    obtain ⟨j, hj, hn, hk⟩ := h.ext id b hb
    exact ⟨j, hle _ _ hj, fun ho => hn (hsub _ ho), hk.mono hle rfl⟩
  · intro g hg
    obtain ⟨j, hj, hb⟩ := h.glob g hg
    exact ⟨j, hle _ _ hj, hb⟩

theorem EnvOk.cons {e : Env} {tmps : Array Value} (h : EnvOk R e tmps) {t : Nat} {v : V} {x : Value} (ht : tmps[t]? = some x) (hv : conc R v = some x) : EnvOk R ((t, v) :: e) tmps := by
  refine ⟨fun k u hk => ?_⟩
  simp only [look, Nat.beq_eq] at hk
  split at hk
  · rename_i he; subst he; cases hk; exact .inr ⟨x, ht, hv⟩
  · exact h.at_ k u hk

theorem look_repl' {α : Type} {l : List (Nat × α)} {m : Nat} {a c : α} (h : look l m = some a) (k : Nat) : look (repl l m c) k = if m = k then some c else look l k := by
  rw [look_repl]
  by_cases he : m = k
  · subst he; rw [if_pos rfl, if_pos rfl, h]; rfl
  · rw [if_neg he, if_neg he]

structure MemI (C : Cx) (R : Ren) (B : Bs) (r : Rg) (σ : H) (w : World) : Prop where
  rel : Rel C R σ w
  priv : Priv C R B r σ w

/-- One operation. -/
theorem step_ok (hD : ∀ f, SoundFn P C.E C.G f (D f)) {B : Bs} {r : Rg} (hm : MemI C R B r σ w) {a : Act} {e : Env} {q : Qs} (he : EnvL R e a.tmps) (hq : QOk B q a.tmps)
    (o : Oper) {pw : Bool} {id nx : Nat} (hid : R id = none) (hlt : id < nx) (hnx : σ.next ≤ nx) {out : Out} (h : Step C.E D pw id nx (compOp P C.G o.op) e q r σ out) (K : Act → World → Prop) (Q : Exit → Act → World → Prop)
    (hV : ∀ v r' σ', out = .val v r' σ' → ∀ R' w' x, Le R R' → (∀ k, k < σ.next → k ≠ id → R' k = R k) → σ.next ≤ σ'.next → MemI C R' B r' σ' w' → ((v = .dead ∧ (compOp P C.G o.op).cls = .k) ∨ conc R' v = some x) → K (a.put o.dst x) w')
    (hM : ∀ m off, out = .mark m off → ∀ i, B m = some i → K (a.put o.dst (.pointer (some ⟨i.blk, i.shift + off, none⟩))) w) : o.wp P a w K Q := by
  obtain ⟨hrel, hpriv⟩ := hm
  have hg := hrel.globOk
  have hmark : ∀ x m off, markX q x = some (m, off) → ∃ t i, x = .tmp t ∧ B m = some i ∧ a.tmps[t]? = some (.pointer (some ⟨i.blk, i.shift + off, none⟩)) := by
    intro x m off hx
    cases x with
    | con v => cases hx
    | tmp t =>
      obtain ⟨i, h1, h2⟩ := hq.at_ t m off hx
      exact ⟨t, i, rfl, h1, h2⟩
  have hle2 : ∀ i, Le R (upd R σ.next i) := fun i => (upd_ext R σ.next i).le hrel.fresh
  have hg2 : ∀ i, GlobOk C.G (upd R σ.next i) := fun i g hgg => by
    obtain ⟨j, hj, hb⟩ := hg g hgg
    exact ⟨j, hle2 i _ _ hj, hb⟩
  have hcp : ∀ i off, conc (upd R σ.next i) (.ptr σ.next off) = some (.pointer (some ⟨i.blk, i.shift + off, none⟩)) := fun i off => conc_ptr_mk (upd_same _ _ _)
  cases h with
  | p v hc h =>
    replace h := h he.live
    obtain ⟨x, hx, hrun⟩ := aopP_ok (a := a) (P := P) he.env hg o h w
    unfold Oper.wp; rw [hrun]
    exact hV v r σ rfl R w x (Le.refl _) (fun _ _ _ => rfl) (Nat.le_refl _) ⟨hrel, hpriv⟩ (.inr hx)
  | l v hc h =>
    replace h := h he.live
    obtain ⟨x, hx, hrun⟩ := aopL_ok (a := a) (P := P) hrel he.env o h
    unfold Oper.wp; rw [hrun]
    exact hV v r σ rfl R w x (Le.refl _) (fun _ _ _ => rfl) (Nat.le_refl _) ⟨hrel, hpriv⟩ (.inr hx)
  | a v b hc h =>
    replace h := h he.live
    obtain ⟨x, w', i, hrun, hn, hi, hx, hok⟩ := aopA_ok (a := a) (P := P) he.env hg o h hid w
    unfold Oper.wp; rw [hrun]
    have hle : Le R (upd R id i) := fun k j hk => by
      by_cases hke : k = id
      · subst hke; rw [hid] at hk; cases hk
      · rw [upd_other hke]; exact hk
    have hrel1 : Rel C R ⟨nx, σ.bl⟩ w := hrel.congr (fun k hk => hrel.fresh k (Nat.le_trans hnx hk)) (fun _ _ hb => hb)
    have hrel2 : Rel C (upd R id i) ⟨nx, (id, b) :: σ.bl⟩ w' := by
      refine hrel1.allocAt hid hlt hn b i hi hok rfl (fun k => ?_)
      simp only [look, Nat.beq_eq]
      by_cases hk : k = id
      · subst hk; simp
      · rw [if_neg (Ne.symm hk), if_neg hk]
    refine hV v r _ rfl (upd R id i) w' x hle (fun k _ hk => upd_other hk) hnx ⟨hrel2, hpriv.mono hle (fun m j hj => hn.old _ (hpriv.lt hj)) (fun m j hj k c j' hk hj' => ?_)⟩ (.inr hx)
    simp only [look, Nat.beq_eq] at hk
    split at hk
    · rename_i he'; subst he'
      rw [upd_same] at hj'; cases hj'
      have := hpriv.lt hj
      omega
    · rename_i he'
      rw [upd_other (Ne.symm he')] at hj'
      exact hpriv.apart m j hj k c j' hk hj'
  | k v σ1 σ2 hc h hs =>
    replace h := h he.live
    have hsh : Rel (C.sub R σ w) R σ w := hrel.shrink (σs := σ) rfl (fun _ _ hb => hb)
    refine den1_ok (C := C.sub R σ w) hD rfl rfl hsh he.env o h K Q (fun R' w' x hx hn hrel' hv => ?_)
    have hle : Le R R' := hx.le hrel.fresh
    have hno : ∀ m i, B m = some i → ¬ (C.sub R σ w).O i.blk := by
      rintro m i hm (hg | ⟨k, b, j, hb, hj, hbl⟩)
      · have := hpriv.lt hm; omega
      · exact hpriv.apart m i hm k b j hb hj hbl
    have hrel2 : Rel C R' σ1 w' := hrel.regrow (σs := σ) (fun _ _ hb => hb) hrel' hx rfl (fun k b hk => .inl hk)
    have hrel3 : Rel C R' σ2 w' := hrel2.congr (fun k hk => hrel2.fresh k (by rw [← hs.next]; exact hk)) hs.sub
    have hv : (v = .dead ∧ (compOp P C.G o.op).cls = .k) ∨ conc R' v = some x := hv.imp (fun h => ⟨h, hc⟩) (fun h => h)
    refine hV v r σ2 rfl R' w' x hle (fun k hk _ => hx k hk) (by rw [hs.next]; exact hn) ⟨hrel3, hpriv.mono hle (fun m i hm => hrel'.fr _ (hno m i hm)) (fun m i hm k b j hk hj hbl => ?_)⟩ hv
    obtain ⟨j', hj', hO, _⟩ := hrel'.own k b (hs.sub k b hk)
    rw [hj] at hj'; cases hj'
    exact hno m i hm (hbl ▸ hO)
  | mv x m off ho hmx =>
    obtain ⟨t, i, rfl, hB, ht⟩ := hmark x m off hmx
    have he2 : EnvOk (upd R σ.next i) [(t, .ptr σ.next off)] a.tmps := EnvOk.cons ⟨fun k v hk => by simp [look] at hk⟩ ht (hcp i off)
    have hap : aopP (compOp P C.G o.op) [(t, .ptr σ.next off)] = some (.ptr σ.next off) := by
      have hop : opv [(t, V.ptr σ.next off)] (.tmp t) = .ptr σ.next off := by simp [opv, getE, look]
      rcases ho with ho | ho <;> rw [ho] <;> simp only [aopP, hop, V.live, if_true]
    obtain ⟨x, hx, hrun⟩ := aopP_ok (a := a) (P := P) he2 (hg2 i) o hap w
    rw [hcp i off] at hx; cases hx
    unfold Oper.wp; rw [hrun]
    exact hM m off rfl i hB
  | fa d x m off ho hmx =>
    obtain ⟨t, i, rfl, hB, ht⟩ := hmark x m off hmx
    have he2 : EnvOk (upd R σ.next i) [(t, .ptr σ.next off)] a.tmps := EnvOk.cons ⟨fun k v hk => by simp [look] at hk⟩ ht (hcp i off)
    have hap : aopP (compOp P C.G o.op) [(t, .ptr σ.next off)] = some (.ptr σ.next (off + d)) := by
      have hop : opv [(t, V.ptr σ.next off)] (.tmp t) = .ptr σ.next off := by simp [opv, getE, look]
      rw [ho]; simp only [aopP, hop]
    obtain ⟨x, hx, hrun⟩ := aopP_ok (a := a) (P := P) he2 (hg2 i) o hap w
    rw [hcp i (off + d)] at hx; cases hx
    unfold Oper.wp; rw [hrun]
    exact hM m (off + d) rfl i hB
  | ld x m off l v ho hmx hl h =>
    obtain ⟨t, i, rfl, hB, ht⟩ := hmark x m off hmx
    have hr2 := hpriv.one hrel hB hl
    have he2 : EnvOk (upd R σ.next i) [(t, .ptr σ.next off)] a.tmps := EnvOk.cons ⟨fun k v hk => by simp [look] at hk⟩ ht (hcp i off)
    have hap : aopL C.E (compOp P C.G o.op) [(t, .ptr σ.next off)] ⟨σ.next + 1, [(σ.next, .cells l)]⟩ = some v := by
      have hop : opv [(t, V.ptr σ.next off)] (.tmp t) = .ptr σ.next off := by simp [opv, getE, look]
      rw [ho]; simp [aopL, hop, rd, look, h]
    obtain ⟨x, hx, hrun⟩ := aopL_ok (a := a) (P := P) hr2 he2 o hap
    unfold Oper.wp; rw [hrun]
    obtain ⟨_, l', hl', hok⟩ := hpriv.at_ m i hB
    rw [hl] at hl'; cases hl'
    obtain ⟨arr, el, lo, hi, _, hh, _⟩ := hok
    obtain ⟨y, hy, _⟩ := hh off v h
    have hyx := conc_mono (hle2 i) v y hy
    rw [hx] at hyx; cases hyx
    exact hV v r σ rfl R w x (Le.refl _) (fun _ _ _ => rfl) (Nat.le_refl _) ⟨hrel, hpriv⟩ (.inr hy)
  | ldn n x m off l ho hmx hl h =>
    obtain ⟨t, i, rfl, hB, ht⟩ := hmark x m off hmx
    have hr2 := hpriv.one hrel hB hl
    have he2 : EnvOk (upd R σ.next i) [(t, .ptr σ.next off)] a.tmps := EnvOk.cons ⟨fun k v hk => by simp [look] at hk⟩ ht (hcp i off)
    have hap : aopL C.E (compOp P C.G o.op) [(t, .ptr σ.next off)] ⟨σ.next + 1, [(σ.next, .cells l)]⟩ = some (.agg ((l.drop off).take n)) := by
      have hop : opv [(t, V.ptr σ.next off)] (.tmp t) = .ptr σ.next off := by simp [opv, getE, look]
      rw [ho]; simp [aopL, hop, rdN, rd, look, h]
    obtain ⟨x, hx, hrun⟩ := aopL_ok (a := a) (P := P) hr2 he2 o hap
    unfold Oper.wp; rw [hrun]
    obtain ⟨_, l', hl', hok⟩ := hpriv.at_ m i hB
    rw [hl] at hl'; cases hl'
    obtain ⟨arr, el, lo, hi, _, hh, _⟩ := hok
    obtain ⟨xs, hxs, _⟩ := hh.cells h
    have hy : conc R (.agg ((l.drop off).take n)) = some (.agg xs.toArray) := conc_agg_mk hxs
    have hyx := conc_mono (hle2 i) _ _ hy
    rw [hx] at hyx; cases hyx
    exact hV _ r σ rfl R w _ (Le.refl _) (fun _ _ _ => rfl) (Nat.le_refl _) ⟨hrel, hpriv⟩ (.inr hy)
  | st n x y m off l cs u hw ho hmx hl hn hu hlu hcs h1 hlen h =>
    replace hlu := hlu he.live
    obtain ⟨t, i, rfl, hB, ht⟩ := hmark x m off hmx
    have hr2 := hpriv.one hrel hB hl
    have he2 : EnvOk (upd R σ.next i) ((t, .ptr σ.next off) :: e) a.tmps := EnvOk.cons (he.env.mono (hle2 i)) ht (hcp i off)
    have hop : opv ((t, V.ptr σ.next off) :: e) (.tmp t) = .ptr σ.next off := by simp [opv, getE, look]
    have hoy : opv ((t, V.ptr σ.next off) :: e) y = u := by
      rw [← hu]
      cases y with
      | con v => rfl
      | tmp s =>
        have hne : ¬ t = s := fun hts => by subst hts; simp only [markX] at hn hmx; rw [hn] at hmx; cases hmx
        simp only [opv, getE, look, Nat.beq_eq, hne, if_false]
    have hap : den1 C.E D (compOp P C.G o.op) ((t, .ptr σ.next off) :: e) ⟨σ.next + 1, [(σ.next, .cells l)]⟩ = some (.dead, (⟨σ.next + 1, [(σ.next, .cells l)]⟩ : H).set σ.next (.cells (spl l off cs))) := by
      rw [ho]
      simp only [den1, aop, AOp.cls, aopK, hop, hoy]
      simp only [look, Nat.beq_eq, if_true]
      rw [if_pos]
      · rw [hcs]
      · simp only [Bool.and_eq_true, Nat.beq_eq, Nat.ble_eq]
        exact ⟨⟨by rw [← hcs]; exact hlen, h⟩, by rw [← hcs]; exact h1⟩
    refine den1_ok (C := { C with O := fun blk => blk = i.blk ∨ w.heap.size ≤ blk, w0 := w }) hD rfl rfl hr2 he2 o hap K Q (fun R' w' x hx hn' hrel' hv => ?_)
    have hR'n : R' σ.next = some i := by rw [hx σ.next (Nat.lt_succ_self _)]; exact upd_same _ _ _
    obtain ⟨j, hj, _, hok⟩ := hrel'.own σ.next (.cells (spl l off cs)) (by simp [H.set, repl, look])
    rw [hR'n] at hj; cases hj
    have hRR' : Le R R' := (hle2 i).trans (hx.le (fun k hk => by
      have hk' : σ.next + 1 ≤ k := hk
      rw [upd_other (by omega)]; exact hrel.fresh k (by omega)))
    -- each of its cells was known before
    obtain ⟨hOi, l', hl', hokl⟩ := hpriv.at_ m i hB
    rw [hl] at hl'; cases hl'
    have hcell : ∀ u' : V, (∃ k : Nat, (spl l off cs)[k]? = some u') → ∃ y, conc R u' = some y := by
      rintro u' ⟨k, hk⟩
      rw [spl_get] at hk
      split at hk
      · split at hk
        · have huc : ∃ z, conc R u = some z := by
            obtain ⟨oy, rfl⟩ : ∃ oy, y = compO C.G oy := by
              obtain ⟨dst, op, ty, pos, after, guard⟩ := o
              simp only at ho
              cases op <;> simp only [compOp] at ho <;> (try (first | (cases ho; done) | ((repeat' split at ho) <;> (cases ho; done))))
              · split at ho
                · cases ho
                · simp only [AOp.store.injEq] at ho; exact ⟨_, ho.2.2.symm⟩
                · cases ho
              · rename_i fn _ _; cases fn <;> cases ho
              · rename_i r; cases r <;> cases ho
              · rename_i ok; cases ok
                · cases ho
                · simp only at ho; split at ho <;> cases ho
              · rename_i c
                obtain ⟨callee, cargs, argTypes⟩ := c
                simp only at ho
                split at ho
                · unfold compB at ho; (repeat' split at ho) <;> cases ho
                · cases ho
                · cases ho
                · cases ho
            exact ⟨_, ev (a := a) he.env hg hu hlu⟩
          obtain ⟨z, hz⟩ := huc
          have hcc := conc_cells hz
          rw [← hcs] at hcc
          obtain ⟨y', hy', _⟩ := concs_get hcc hk
          exact ⟨y', hy'⟩
        · cases hk
      · obtain ⟨arr, el, lo, hi, _, hh, _⟩ := hokl
        obtain ⟨y', hy', _⟩ := hh k u' hk
        exact ⟨y', hy'⟩
    have hokR : OwnOk R i (.cells (spl l off cs)) w' := by
      obtain ⟨arr, el, lo, hi, h1', h2', h3', h4', h5'⟩ := hok
      refine ⟨arr, el, lo, hi, h1', fun k v hk => ?_, h3', h4', h5'⟩
      obtain ⟨y', hy', hone, harr⟩ := h2' k v hk
      obtain ⟨y2, hy2⟩ := hcell v ⟨k, hk⟩
      have := conc_mono hRR' v y2 hy2
      rw [hy'] at this; cases this
      exact ⟨_, hy2, hone, harr⟩
    have hfr : ∀ blk, blk < w.heap.size → blk ≠ i.blk → w'.heap[blk]? = w.heap[blk]? := fun blk hb hne => hrel'.fr blk (by rintro (h | h); exact hne h; omega)
    have hrelw : Rel C R σ w' := hrel.frame (fun blk hb hor => by
      refine hfr blk hb ?_
      rcases hor with ⟨k, b, j, hk, hj, rfl⟩ | hno
      · exact hpriv.apart m i hB k b j hk hj
      · intro he'; exact hno (he' ▸ hOi)) hrel'.size hrel'.os hrel'.tape hrel'.output
    refine hV .dead _ σ rfl R w' x (Le.refl _) (fun _ _ _ => rfl) (Nat.le_refl _) ⟨hrelw, ⟨fun m' i' hm' => ?_, hpriv.inj, hpriv.apart⟩⟩ (.inl ⟨rfl, by rw [ho]; rfl⟩)
    obtain ⟨hO', l2, hl2, hok2⟩ := hpriv.at_ m' i' hm'
    refine ⟨hO', ?_⟩
    by_cases hmm : m = m'
    · subst hmm
      rw [hB] at hm'; cases hm'
      exact ⟨_, by rw [look_repl' hl, if_pos rfl], hokR⟩
    · refine ⟨l2, by rw [look_repl' hl, if_neg hmm]; exact hl2, hok2.mono (Le.refl _) (hfr _ hok2.lt (fun hbl => hmm (hpriv.inj m m' i i' hB hm' hbl.symm)))⟩
end Go.Og

set_option linter.unusedSimpArgs false
namespace Go.Og
variable {P : Program} {E : List (Nat × Blk)} {D : Den} {C : Cx} {R : Ren} {σ : H} {w w' : World}

inductive Run (E : List (Nat × Blk)) (D : Den) (dr : Bool) (n0 : Nat) : Nat → List (AOper × List Nat) → St → St → Prop where
  | nil (i : Nat) (s : St) : Run E D dr n0 i [] s s
  | skip (i : Nat) (o : AOper) (ks : List Nat) (l : List (AOper × List Nat)) (s s' : St) (hw : wantedA (selE dr ks s.e) o.guard = some false)
      (h : Run E D dr n0 (i + 1) l ⟨putE s.e o.dst undefV, without1 o.dst s.q, s.r, s.σ⟩ s') : Run E D dr n0 i ((o, ks) :: l) s s'
  | val (i : Nat) (o : AOper) (ks : List Nat) (l : List (AOper × List Nat)) (s s' : St) (pw : Bool) (v : V) (r' : Rg) (σ' : H) (hw : wantedA (selE dr ks s.e) o.guard = some true)
      (hs : Step E D pw s.σ.next (s.σ.next + 1) o.op (selE dr ks s.e) (selQ dr ks s.q) s.r s.σ (.val v r' σ'))
      (hl : o.dst = none ∨ v.live = true ∨ o.op.cls ≠ .k) (hna : dr = true → o.op.cls ≠ .a)
      (h : Run E D dr n0 (i + 1) l ⟨putE s.e o.dst v, without1 o.dst s.q, r', σ'⟩ s') : Run E D dr n0 i ((o, ks) :: l) s s'
  | mark (i : Nat) (o : AOper) (ks : List Nat) (l : List (AOper × List Nat)) (s s' : St) (pw : Bool) (id nx m off : Nat) (hw : wantedA (selE dr ks s.e) o.guard = some true)
      (hs : Step E D pw id nx o.op (selE dr ks s.e) (selQ dr ks s.q) s.r s.σ (.mark m off))
      (h : Run E D dr n0 (i + 1) l ⟨without1 o.dst s.e, putQ (without1 o.dst s.q) o.dst (m, off), s.r, s.σ⟩ s') : Run E D dr n0 i ((o, ks) :: l) s s'
  | pal (i : Nat) (o : AOper) (ks : List Nat) (l : List (AOper × List Nat)) (s s' : St) (d : Nat) (el : TypeId) (z : List V) (hd : o.dst = some d) (ho : o.op = .alloc el z) (hw : wantedA (selE dr ks s.e) o.guard = some true)
      (h : Run E D dr n0 (i + 1) l ⟨without [d] s.e, (d, (d, 0)) :: unmark d (without [d] s.q), (d, z) :: without [d] s.r, s.σ⟩ s') : Run E D dr n0 i ((o, ks) :: l) s s'
  | shrink (i : Nat) (l : List (AOper × List Nat)) (s s' : St) (e : Env) (q : Qs) (he : ∀ t v, look e t = some v → look s.e t = some v) (hq : ∀ t v, look q t = some v → look s.q t = some v)
      (h : Run E D dr n0 i l ⟨e, q, s.r, s.σ⟩ s') : Run E D dr n0 i l s s'

theorem Run.append {dr : Bool} {n0 : Nat} : ∀ {i : Nat} {l m : List (AOper × List Nat)} {s s1 s2 : St}, Run E D dr n0 i l s s1 → Run E D dr n0 (i + l.length) m s1 s2 → Run E D dr n0 i (l ++ m) s s2 := by
  intro i l m s s1 s2 h
  induction h with
  | nil i s => intro h2; simpa using h2
  | skip i o ks l s s' hw _ ih => intro h2; exact .skip i o ks _ s s2 hw (ih (by rwa [List.length_cons, show i + (l.length + 1) = i + 1 + l.length by omega] at h2))
  | val i o ks l s s' pw v r' σ' hw hs hl hna _ ih => intro h2; exact .val i o ks _ s s2 pw v r' σ' hw hs hl hna (ih (by rwa [List.length_cons, show i + (l.length + 1) = i + 1 + l.length by omega] at h2))
  | mark i o ks l s s' pw id nx m off hw hs _ ih => intro h2; exact .mark i o ks _ s s2 pw id nx m off hw hs (ih (by rwa [List.length_cons, show i + (l.length + 1) = i + 1 + l.length by omega] at h2))
  | pal i o ks l s s' d el z hd ho hw _ ih => intro h2; exact .pal i o ks _ s s2 d el z hd ho hw (ih (by rwa [List.length_cons, show i + (l.length + 1) = i + 1 + l.length by omega] at h2))
  | shrink i l s s' e q he hq _ ih => intro h2; exact .shrink i _ s s2 e q he hq (ih h2)

/-! ### looks -/
theorem look_without {α : Type} (ds : List Nat) (l : List (Nat × α)) (t : Nat) : look (without ds l) t = if memN ds t = true then none else look l t := by
  induction l with
  | nil => simp [without, look]
  | cons p l ih =>
    obtain ⟨k, v⟩ := p
    simp only [without]
    split
    · rename_i hk
      rw [ih]
      by_cases ht : memN ds t = true
      · rw [if_pos ht, if_pos ht]
      · rw [if_neg ht, if_neg ht]
        have hkt : ¬ k = t := fun h => ht (h ▸ hk)
        simp only [look, Nat.beq_eq, hkt, if_false]
    · rename_i hk
      simp only [look, Nat.beq_eq]
      by_cases hkt : k = t
      · subst hkt; rw [if_pos rfl, if_neg (by rw [hk]; simp), if_pos rfl]
      · rw [if_neg hkt, if_neg hkt, ih]
theorem memN_one (d t : Nat) : memN [d] t = true ↔ d = t := by simp [memN]
theorem memN_cons (d : Nat) (l : List Nat) (t : Nat) : memN (d :: l) t = true ↔ d = t ∨ memN l t = true := by simp [memN]
theorem memN_append (l m : List Nat) (t : Nat) : memN (l ++ m) t = true ↔ memN l t = true ∨ memN m t = true := by
  induction l with
  | nil => simp [memN]
  | cons a l ih => simp only [List.cons_append, memN, Bool.or_eq_true, ih, or_assoc]
theorem look_without1 {α : Type} (d : Option Nat) (l : List (Nat × α)) (t : Nat) : look (without1 d l) t = if d = some t then none else look l t := by
  cases d with
  | none => simp [without1]
  | some d =>
    simp only [without1, look_without, Option.some.injEq]
    by_cases h : d = t
    · rw [if_pos ((memN_one d t).2 h), if_pos h]
    · rw [if_neg (fun hh => h ((memN_one d t).1 hh)), if_neg h]
theorem look_putE (e : Env) (d : Option Nat) (v : V) (t : Nat) : look (putE e d v) t = if d = some t then some v else look e t := by
  cases d with
  | none => simp [putE]
  | some d =>
    simp only [putE, look, Nat.beq_eq, Option.some.injEq]
theorem look_putQ (q : Qs) (d : Option Nat) (p : Nat × Nat) (t : Nat) : look (putQ q d p) t = if d = some t then some p else look q t := by
  cases d with
  | none => simp [putQ]
  | some d =>
    simp only [putQ, look, Nat.beq_eq, Option.some.injEq]
theorem look_restr_mem {ks : List Nat} {e : Env} {t : Nat} (h : memN ks t = true) : look (restr ks e) t = look e t := by
  induction ks with
  | nil => simp [memN] at h
  | cons a ks ih =>
    simp only [memN, Bool.or_eq_true, Nat.beq_eq] at h
    simp only [restr]
    cases ha : look e a with
    | none =>
      simp only
      by_cases hat : a = t
      · subst hat
        rw [ha]
        cases hl : look (restr ks e) a with
        | none => rfl
        | some v => rw [(look_restr ks e a v hl).1] at ha; cases ha
      · exact ih (h.resolve_left hat)
    | some u =>
      simp only [look, Nat.beq_eq]
      by_cases hat : a = t
      · subst hat; rw [if_pos rfl, ha]
      · rw [if_neg hat]; exact ih (h.resolve_left hat)
theorem look_restrQ (ls : List Nat) (q : Qs) (t : Nat) (p : Nat × Nat) (h : look (restrQ ls q) t = some p) : look q t = some p ∧ memN ls t = true := by
  induction ls with
  | nil => simp [restrQ, look] at h
  | cons a ls ih =>
    simp only [restrQ] at h
    simp only [memN, Bool.or_eq_true, Nat.beq_eq]
    cases ha : look q a with
    | none => rw [ha] at h; exact (ih h).imp id .inr
    | some u =>
      rw [ha] at h
      simp only [look, Nat.beq_eq] at h
      by_cases hat : a = t
      · subst hat
        rw [if_pos rfl] at h
        cases h
        exact ⟨ha, .inl rfl⟩
      · rw [if_neg hat] at h
        exact (ih h).imp id .inr
theorem look_selE {dr : Bool} {ks : List Nat} {e : Env} {t : Nat} (h : memN ks t = true) : look (selE dr ks e) t = look e t := by
  cases dr with
  | true => exact look_restr_mem h
  | false => rfl
theorem selE_sub {dr : Bool} {ks : List Nat} {e : Env} {t : Nat} {v : V} (h : look (selE dr ks e) t = some v) : look e t = some v := by
  cases dr with
  | true => exact (look_restr _ _ _ _ h).1
  | false => exact h
theorem marked_not {m : Nat} : ∀ {q : Qs} {t : Nat} {p : Nat × Nat}, memN (marked m q) t = false → look q t = some p → p.1 ≠ m
  | [], t, p, _, h => by simp [look] at h
  | (k, b) :: q, t, p, hm, h => by
    simp only [marked] at hm
    simp only [look, Nat.beq_eq] at h
    split at hm
    · rename_i hb
      have hkt : ¬ k = t := by
        intro he; subst he
        simp [memN] at hm
      rw [if_neg hkt] at h
      have hm2 : memN (marked m q) t = false := by
        cases h2 : memN (marked m q) t with
        | false => rfl
        | true => rw [(memN_cons k _ t).2 (.inr h2)] at hm; cases hm
      exact marked_not hm2 h
    · rename_i hb
      by_cases hk : k = t
      · rw [if_pos hk] at h; cases h
        intro he; rw [← Nat.beq_eq, hb] at he; cases he
      · rw [if_neg hk] at h; exact marked_not hm h
theorem look_unmark (m : Nat) (q : Qs) (t : Nat) (p : Nat × Nat) (h : look (unmark m q) t = some p) : p.1 ≠ m ∧ look q t = some p := by
  unfold unmark at h
  rw [look_without] at h
  split at h
  · cases h
  · rename_i hm
    have hm2 : memN (marked m q) t = false := by simpa using hm
    exact ⟨marked_not hm2 h, h⟩

theorem wanted_of {dr : Bool} {ks : List Nat} {e : Env} {t : Nat} {b c : Bool} (hm : memN ks t = true) (h : look e t = some (.bool c)) : wantedA (selE dr ks e) (some (t, b)) = some (c == b) := by
  simp only [wantedA, getE, look_selE hm, h]
theorem wanted_undef {dr : Bool} {ks : List Nat} {e : Env} {t : Nat} {b : Bool} (hm : memN ks t = true) (h : look e t = some undefV) : wantedA (selE dr ks e) (some (t, b)) = some false := by
  simp only [wantedA, getE, look_selE hm, h, undefV]

theorem flat_len : ∀ (l : XL) (g : Option (Nat × Bool)), (l.flat g).length = l.size ∧ l.lks.length = l.size
  | .nil, g => ⟨rfl, rfl⟩
  | .op _ _ _ _ r, g => by obtain ⟨h1, h2⟩ := flat_len r g; simp [XL.flat, XL.lks, XL.size, h1, h2]
  | .pal _ _ _ _ r, g => by obtain ⟨h1, h2⟩ := flat_len r g; simp [XL.flat, XL.lks, XL.size, h1, h2]
  | .grp t b l _ _ _ _ _ r, g => by
    obtain ⟨h1, h2⟩ := flat_len r g
    obtain ⟨h3, h4⟩ := flat_len l (some (t, b))
    simp [XL.flat, XL.lks, XL.size, h1, h2, h3, h4]
theorem zip_grp (l : XL) (g : Option (Nat × Bool)) (x : AOper) (k : List Nat) (m : List AOper) (n : List (List Nat)) :
    (l.flat g ++ x :: m).zip (l.lks ++ k :: n) = (l.flat g).zip l.lks ++ (x, k) :: m.zip n := by
  obtain ⟨h1, h2⟩ := flat_len l g
  rw [List.zip_append (by omega)]
  rfl
theorem zip_len (l : XL) (g : Option (Nat × Bool)) : ((l.flat g).zip l.lks).length = l.size := by
  obtain ⟨h1, h2⟩ := flat_len l g
  simp [h1, h2]

/-- A group that is not entered. -/
theorem skip_run {dr : Bool} {n0 : Nat} : ∀ (l : XL) (ds : List Nat) (t : Nat) (b : Bool) (i : Nat) (s : St), l.okG (some ds) (some t) = true →
    (look s.e t = some undefV ∨ ∃ c, look s.e t = some (.bool c) ∧ (c == b) = false) → memN l.dsts t = false → (∀ u, memN ds u = true → look s.e u = some undefV) →
    ∃ s', Run E D dr n0 i ((l.flat (some (t, b))).zip l.lks) s s' ∧ s'.r = s.r ∧ s'.σ = s.σ ∧ (∀ u, memN l.dsts u = false → look s'.e u = look s.e u ∧ look s'.q u = look s.q u) ∧
      (∀ u, memN l.dsts u = true → look s'.e u = some undefV)
  | .nil, ds, t, b, i, s, hok, ht, hd, hds => ⟨s, .nil i s, rfl, rfl, fun _ _ => ⟨rfl, rfl⟩, fun u hu => by simp [XL.dsts, memN] at hu⟩
  | .pal _ _ _ _ r, ds, t, b, i, s, hok, ht, hd, hds => by simp [XL.okG] at hok
  | .op d ty ks o r, ds, t, b, i, s, hok, ht, hd, hds => by
    simp only [XL.okG, Bool.and_eq_true] at hok
    obtain ⟨⟨_, hks⟩, hr⟩ := hok
    have hks : memN ks t = true := hks
    have hw : wantedA (selE dr ks s.e) (some (t, b)) = some false := by
      rcases ht with ht | ⟨c, ht, hc⟩
      · exact wanted_undef hks ht
      · rw [wanted_of hks ht, hc]
    cases d with
    | none =>
      have hr : r.okG (some ds) (some t) = true := hr
      obtain ⟨s', h1, h2, h3, h4, h5⟩ := skip_run (dr := dr) (n0 := n0) r ds t b (i + 1) s hr ht hd hds
      exact ⟨s', .skip i ⟨none, o, some (t, b)⟩ ks _ s s' hw h1, h2, h3, h4, h5⟩
    | some d =>
      have hr : r.okG (some (d :: ds)) (some t) = true := hr
      simp only [XL.dsts] at hd
      have hdt : d ≠ t ∧ memN r.dsts t = false := by
        simp only [memN, Bool.or_eq_false_iff] at hd
        exact ⟨(by intro h; rw [← Nat.beq_eq, hd.1] at h; cases h), hd.2⟩
      have hput : ∀ u, look (putE s.e (some d) undefV) u = if d = u then some undefV else look s.e u := fun u => by rw [look_putE]; simp
      obtain ⟨s', h1, h2, h3, h4, h5⟩ := skip_run (dr := dr) (n0 := n0) r (d :: ds) t b (i + 1) ⟨putE s.e (some d) undefV, without1 (some d) s.q, s.r, s.σ⟩ hr
        (by simp only [hput, if_neg hdt.1]; exact ht) hdt.2 (fun u hu => by
          simp only [hput]
          rcases (memN_cons d ds u).1 hu with h | h
          · rw [if_pos h]
          · by_cases hdu : d = u
            · rw [if_pos hdu]
            · rw [if_neg hdu]; exact hds u h)
      refine ⟨s', .skip i ⟨some d, o, some (t, b)⟩ ks _ s s' hw h1, h2, h3, fun u hu => ?_, fun u hu => ?_⟩
      · simp only [XL.dsts, memN, Bool.or_eq_false_iff] at hu
        have hdu : ¬ d = u := by intro h; rw [← Nat.beq_eq, hu.1] at h; cases h
        obtain ⟨h6, h7⟩ := h4 u hu.2
        refine ⟨by rw [h6]; simp only [hput, if_neg hdu], by rw [h7, look_without1]; simp [hdu]⟩
      · simp only [XL.dsts] at hu
        cases hru : memN r.dsts u with
        | true => exact h5 u hru
        | false =>
          rcases (memN_cons d r.dsts u).1 hu with h | h
          · rw [(h4 u hru).1]; simp only [hput, if_pos h]
          · rw [hru] at h; cases h
  | .grp t2 b2 l d ks c x y r, ds, t, b, i, s, hok, ht, hd, hds => by
    simp only [XL.okG, Bool.and_eq_true, Bool.not_eq_true'] at hok
    obtain ⟨⟨⟨⟨⟨⟨hks, _⟩, hlt⟩, _⟩, hdt2⟩, hl⟩, hr⟩ := hok
    have hks : memN ks t = true := hks
    simp only [XL.dsts] at hd
    have hdl : memN l.dsts t = false ∧ d ≠ t ∧ memN r.dsts t = false := by
      have h0 : ¬ (memN (l.dsts ++ d :: r.dsts) t = true) := by rw [hd]; simp
      rw [memN_append, memN_cons] at h0
      refine ⟨?_, fun h => h0 (.inr (.inl h)), ?_⟩
      · cases h : memN l.dsts t with
        | false => rfl
        | true => exact (h0 (.inl h)).elim
      · cases h : memN r.dsts t with
        | false => rfl
        | true => exact (h0 (.inr (.inr h))).elim
    obtain ⟨s1, h1, h2, h3, h4, h5⟩ := skip_run (dr := dr) (n0 := n0) l [] t2 b2 i s hl (.inl (hds t2 hdt2)) hlt (fun u hu => by simp [memN] at hu)
    have ht1 : look s1.e t = some undefV ∨ ∃ c, look s1.e t = some (.bool c) ∧ (c == b) = false := by rw [(h4 t hdl.1).1]; exact ht
    have hw : wantedA (selE dr ks s1.e) (some (t, b)) = some false := by
      rcases ht1 with ht | ⟨c, ht, hc⟩
      · exact wanted_undef hks ht
      · rw [wanted_of hks ht, hc]
    have hput : ∀ u, look (putE s1.e (some d) undefV) u = if d = u then some undefV else look s1.e u := fun u => by rw [look_putE]; simp
    obtain ⟨s', g1, g2, g3, g4, g5⟩ := skip_run (dr := dr) (n0 := n0) r (d :: l.dsts ++ ds) t b (i + l.size + 1) ⟨putE s1.e (some d) undefV, without1 (some d) s1.q, s1.r, s1.σ⟩ hr
      (by simp only [hput, if_neg hdl.2.1]; exact ht1) hdl.2.2 (fun u hu => by
        simp only [hput]
        by_cases hdu : d = u
        · rw [if_pos hdu]
        · rw [if_neg hdu]
          rw [List.cons_append] at hu
          rcases (memN_cons d _ u).1 hu with h | h
          · exact (hdu h).elim
          · cases hlu : memN l.dsts u with
            | true => exact h5 u hlu
            | false =>
              rcases (memN_append _ _ u).1 h with h | h
              · rw [hlu] at h; cases h
              · rw [(h4 u hlu).1]; exact hds u h)
    refine ⟨s', ?_, by rw [g2]; exact h2, by rw [g3]; exact h3, fun u hu => ?_, fun u hu => ?_⟩
    · simp only [XL.flat, XL.lks]
      rw [zip_grp]
      refine h1.append ?_
      rw [zip_len]
      exact .skip _ ⟨some d, .pick c x y, some (t, b)⟩ ks _ s1 s' hw g1
    · simp only [XL.dsts] at hu
      have h0 : ¬ (memN (l.dsts ++ d :: r.dsts) u = true) := by rw [hu]; simp
      rw [memN_append, memN_cons] at h0
      have hlu : memN l.dsts u = false := by
        cases h : memN l.dsts u with
        | false => rfl
        | true => exact (h0 (.inl h)).elim
      have hru : memN r.dsts u = false := by
        cases h : memN r.dsts u with
        | false => rfl
        | true => exact (h0 (.inr (.inr h))).elim
      have hdu : ¬ d = u := fun h => h0 (.inr (.inl h))
      obtain ⟨k1, k2⟩ := g4 u hru
      obtain ⟨k3, k4⟩ := h4 u hlu
      refine ⟨by rw [k1]; simp only [hput, if_neg hdu]; exact k3, by rw [k2, look_without1]; simp only [Option.some.injEq, if_neg hdu]; exact k4⟩
    · simp only [XL.dsts] at hu
      cases hru : memN r.dsts u with
      | true => exact g5 u hru
      | false =>
        rw [(g4 u hru).1]
        simp only [hput]
        by_cases hdu : d = u
        · rw [if_pos hdu]
        · rw [if_neg hdu]
          rcases (memN_append _ _ u).1 hu with h | h
          · exact h5 u h
          · rcases (memN_cons d _ u).1 h with h | h
            · exact (hdu h).elim
            · rw [hru] at h; cases h
end Go.Og

set_option linter.unusedSimpArgs false
namespace Go.Og
variable {E : List (Nat × Blk)} {D : Den}

def Gd (g : Option (Nat × Bool)) (gt : Option Nat) (e : Env) (ds : List Nat) : Prop :=
  (g = none ∧ gt = none) ∨ ∃ t b, g = some (t, b) ∧ gt = some t ∧ look e t = some (.bool b) ∧ memN ds t = false

theorem Gd.wanted {g : Option (Nat × Bool)} {gt : Option Nat} {e : Env} {ds : List Nat} (h : Gd g gt e ds) {dr : Bool} {ks : List Nat} (hs : seen gt ks = true) : wantedA (selE dr ks e) g = some true := by
  rcases h with ⟨rfl, rfl⟩ | ⟨t, b, rfl, rfl, hl, _⟩
  · rfl
  · rw [wanted_of hs hl]; simp
theorem Gd.next {g : Option (Nat × Bool)} {gt : Option Nat} {e e' : Env} {ds ds' : List Nat} (h : Gd g gt e ds) (hd : ∀ t, memN ds t = false → memN ds' t = false) (he : ∀ t, memN ds t = false → look e' t = look e t) : Gd g gt e' ds' := by
  rcases h with ⟨rfl, rfl⟩ | ⟨t, b, rfl, rfl, hl, hm⟩
  · exact .inl ⟨rfl, rfl⟩
  · exact .inr ⟨t, b, rfl, rfl, by rw [he t hm]; exact hl, hd t hm⟩

theorem step_pw {id nx : Nat} {o : AOp} {e : Env} {q : Qs} {r r' : Rg} {σ σ' : H} {v : V} (h : Step E D false id nx o e q r σ (.val v r' σ')) : r' = r := by
  cases h <;> first | rfl | (rename_i hw _ _ _ _ _ _ _ _ _ _; cases hw)

theorem mem_false {ds : List Nat} {t : Nat} : memN ds t = false ↔ ¬ memN ds t = true := by cases memN ds t <;> simp
theorem memN_cons_false {d : Nat} {l : List Nat} {t : Nat} (h : memN (d :: l) t = false) : d ≠ t ∧ memN l t = false := by
  rw [mem_false, memN_cons] at h
  exact ⟨fun hh => h (.inl hh), mem_false.2 fun hh => h (.inr hh)⟩
theorem memN_append_false {l m : List Nat} {t : Nat} (h : memN (l ++ m) t = false) : memN l t = false ∧ memN m t = false := by
  rw [mem_false, memN_append] at h
  exact ⟨mem_false.2 fun hh => h (.inl hh), mem_false.2 fun hh => h (.inr hh)⟩

theorem mk_op {d : Option Nat} {ty : XTy} {ks : List Nat} {o : AOp} {r : XL} (h : (XL.op d ty ks o r).makes = false) : o.cls ≠ .a ∧ r.makes = false := by
  simp only [XL.makes] at h
  split at h
  · cases h
  · rename_i hc; exact ⟨hc, h⟩
theorem mk_grp {t : Nat} {b : Bool} {l : XL} {d : Nat} {ks : List Nat} {c x y : AO} {r : XL} (h : (XL.grp t b l d ks c x y r).makes = false) : l.makes = false ∧ r.makes = false := by
  simpa only [XL.makes, Bool.or_eq_false_iff] using h
theorem okD_some {d : Nat} {ty : XTy} {o : AOp} (h : okD (some d) ty o = true) : (∀ n x y, o = .store n x y → False) ∧ (o.cls = .k → ty.known = true) := by
  constructor
  · rintro n x y rfl; cases h
  · intro hc
    cases o <;> (first | (cases hc; done) | (cases h; done) | exact h | (rename_i t x; cases t <;> cases hc))

theorem denL_run {dr : Bool} {n0 : Nat} : ∀ (l : XL) (ds : Option (List Nat)) (gt : Option Nat) (g : Option (Nat × Bool)) (pw : Bool) (i : Nat) (s : St) (κ : Env → Qs → Rg → H → Ans) (res : V × H),
    denL E D dr pw n0 l i s.e s.q s.r s.σ κ = some res → l.okG ds gt = true → Gd g gt s.e l.dsts → (dr = true → l.makes = false) →
    ∃ s', Run E D dr n0 i ((l.flat g).zip l.lks) s s' ∧ κ s'.e s'.q s'.r s'.σ = some res ∧ (pw = false → s'.r = s.r) ∧
      (∀ u, memN l.dsts u = false → look s'.e u = look s.e u) ∧ (pw = false → ∀ u, memN l.dsts u = false → look s'.q u = look s.q u)
  | .nil, ds, gt, g, pw, i, s, κ, res, h, hok, hg, hmk => ⟨s, .nil i s, h, fun _ => rfl, fun _ _ => rfl, fun _ _ _ => rfl⟩
  | .op d ty ks o r, ds, gt, g, pw, i, s, κ, res, h, hok, hg, hmk => by
    rw [denL_op] at h
    simp only [XL.okG, Bool.and_eq_true] at hok
    obtain ⟨⟨hkd, hks⟩, hr⟩ := hok
    have hr' : ∃ ds', r.okG ds' gt = true := by
      split at hr
      · exact ⟨_, hr⟩
      · exact ⟨_, hr⟩
    obtain ⟨ds', hr'⟩ := hr'
    have hw := hg.wanted (dr := dr) hks
    have hdst : ∀ t, memN (XL.op d ty ks o r).dsts t = false → d ≠ some t ∧ memN r.dsts t = false := by
      intro t ht
      cases d with
      | none => exact ⟨by simp, ht⟩
      | some d => obtain ⟨h1, h2⟩ := memN_cons_false ht; exact ⟨by simpa using h1, h2⟩
    obtain ⟨out, hs, hout⟩ := opX_some h
    cases out with
    | val v r' σ' =>
      obtain ⟨hk, hlv⟩ := hout
      have hput : ∀ t, memN (XL.op d ty ks o r).dsts t = false → look (putE s.e d v) t = look s.e t := fun t ht => by
        rw [look_putE, if_neg (hdst t ht).1]
      obtain ⟨s', h1, h2, h3, h4, h5⟩ := denL_run r ds' gt g pw (i + 1) ⟨putE s.e d v, without1 d s.q, r', σ'⟩ κ res hk hr'
        (hg.next (fun t ht => (hdst t ht).2) hput) (fun hd => (mk_op (hmk hd)).2)
      refine ⟨s', .val i ⟨d, o, g⟩ ks _ s s' pw v r' σ' hw hs ?_ (fun hd => (mk_op (hmk hd)).1) h1, h2, fun hpw => ?_, fun u hu => ?_, fun hpw u hu => ?_⟩
      · cases d with
        | none => exact .inl rfl
        | some d =>
          right
          rcases hlv with ⟨n, x, y, rfl⟩ | hlv | hlv | hlv
          · exact ((okD_some hkd).1 _ _ _ rfl).elim
          · exact .inr hlv
          · right
            intro hc
            have := (okD_some hkd).2 hc
            rw [hlv] at this; cases this
          · exact .inl hlv
      · subst hpw; rw [h3 rfl]; exact step_pw hs
      · rw [h4 u (hdst u hu).2]; exact hput u hu
      · rw [h5 hpw u (hdst u hu).2]
        show look (without1 d s.q) u = _
        rw [look_without1, if_neg (hdst u hu).1]
    | mark m off =>
      have hput : ∀ t, memN (XL.op d ty ks o r).dsts t = false → look (without1 d s.e) t = look s.e t := fun t ht => by
        rw [look_without1, if_neg (hdst t ht).1]
      obtain ⟨s', h1, h2, h3, h4, h5⟩ := denL_run r ds' gt g pw (i + 1) ⟨without1 d s.e, putQ (without1 d s.q) d (m, off), s.r, s.σ⟩ κ res hout hr'
        (hg.next (fun t ht => (hdst t ht).2) hput) (fun hd => (mk_op (hmk hd)).2)
      refine ⟨s', .mark i ⟨d, o, g⟩ ks _ s s' pw _ _ m off hw hs h1, h2, h3, fun u hu => ?_, fun hpw u hu => ?_⟩
      · rw [h4 u (hdst u hu).2]; exact hput u hu
      · rw [h5 hpw u (hdst u hu).2]
        show look (putQ (without1 d s.q) d (m, off)) u = _
        rw [look_putQ, if_neg (hdst u hu).1, look_without1, if_neg (hdst u hu).1]
  | .pal d ks el z r, ds, gt, g, pw, i, s, κ, res, h, hok, hg, hmk => by
    cases pw with
    | false => rw [denL_palF] at h; cases h
    | true =>
      rw [denL_pal] at h
      simp only [XL.okG, Bool.and_eq_true] at hok
      obtain ⟨hks, hr⟩ := hok
      have hr' : r.okG none gt = true := by
        split at hr
        · cases hr
        · exact hr
      have hw := hg.wanted (dr := dr) hks
      have hput : ∀ t, memN (XL.pal d ks el z r).dsts t = false → look (without [d] s.e) t = look s.e t := fun t ht => by
        have := (memN_cons_false ht).1
        rw [look_without, if_neg (fun hh => this ((memN_one d t).1 hh))]
      obtain ⟨s', h1, h2, h3, h4, h5⟩ := denL_run r none gt g true (i + 1) ⟨without [d] s.e, (d, (d, 0)) :: unmark d (without [d] s.q), (d, z) :: without [d] s.r, s.σ⟩ κ res h hr'
        (hg.next (fun t ht => (memN_cons_false ht).2) hput) hmk
      refine ⟨s', .pal i ⟨some d, .alloc el z, g⟩ ks _ s s' d el z rfl rfl hw h1, h2, (fun hpw => by cases hpw), fun u hu => ?_, (fun hpw => by cases hpw)⟩
      rw [h4 u (memN_cons_false hu).2]; exact hput u hu
  | .grp t b l d ks c x y r, ds, gt, g, pw, i, s, κ, res, h, hok, hg, hmk => by
    rw [denL_grp] at h
    simp only [XL.okG, Bool.and_eq_true, Bool.not_eq_true'] at hok
    obtain ⟨⟨⟨⟨⟨⟨hks, hkt⟩, hlt⟩, hpk⟩, _⟩, hl⟩, hr⟩ := hok
    have hr' : ∃ ds', r.okG ds' gt = true := by
      split at hr
      · exact ⟨_, hr⟩
      · exact ⟨_, hr⟩
    obtain ⟨ds', hr'⟩ := hr'
    have hdst : ∀ u, memN (XL.grp t b l d ks c x y r).dsts u = false → memN l.dsts u = false ∧ d ≠ u ∧ memN r.dsts u = false := by
      intro u hu
      obtain ⟨h1, h2⟩ := memN_append_false hu
      obtain ⟨h3, h4⟩ := memN_cons_false h2
      exact ⟨h1, h3, h4⟩
    unfold pickOk at hpk
    simp only [Bool.and_eq_true] at hpk
    obtain ⟨hct, hother⟩ := hpk
    have hct : c = .tmp t := by
      cases c with
      | con v => cases hct
      | tmp u => simp only [Nat.beq_eq] at hct; rw [hct]
    subst hct
    obtain ⟨v, hv, _, h⟩ := getK_some h
    obtain ⟨cb, rfl, h9⟩ := rtBool_some h
    replace h := h9
    have hte : look s.e t = some (.bool cb) := by
      simp only [opv, getE] at hv
      cases hq : look (selE dr [t] s.e) t with
      | none => rw [hq] at hv; cases hv
      | some u => rw [hq] at hv; simp only at hv; subst hv; exact selE_sub hq
    -- the end, whichever way
    have fin : ∀ (s1 : St) (vb : Bool), Run E D dr n0 i ((l.flat (some (t, b))).zip l.lks) s s1 → s1.r = s.r → (∀ u, memN l.dsts u = false → look s1.e u = look s.e u) → (∀ u, memN l.dsts u = false → look s1.q u = look s.q u) →
        aopP (.pick (.tmp t) x y) (selE dr ks s1.e) = some (.bool vb) →
        denL E D dr pw n0 r (i + l.size + 1) ((d, .bool vb) :: without (d :: l.dsts) s.e) (without (d :: l.dsts) s.q) s.r s1.σ κ = some res →
        ∃ s', Run E D dr n0 i (((XL.grp t b l d ks (.tmp t) x y r).flat g).zip (XL.grp t b l d ks (.tmp t) x y r).lks) s s' ∧ κ s'.e s'.q s'.r s'.σ = some res ∧ (pw = false → s'.r = s.r) ∧
          (∀ u, memN (XL.grp t b l d ks (.tmp t) x y r).dsts u = false → look s'.e u = look s.e u) ∧ (pw = false → ∀ u, memN (XL.grp t b l d ks (.tmp t) x y r).dsts u = false → look s'.q u = look s.q u) := by
      intro s1 vb hrun hr1 he1 hq1 hp hrest
      have hput : ∀ u, d ≠ u → memN l.dsts u = false → look ((d, V.bool vb) :: without (d :: l.dsts) s.e) u = look s.e u := by
        intro u h1 h2
        simp only [look, Nat.beq_eq, h1, if_false]
        rw [look_without, if_neg (fun hh => by rcases (memN_cons d _ u).1 hh with hh | hh; exact h1 hh; rw [h2] at hh; cases hh)]
      obtain ⟨s', h1, h2, h3, h4, h5⟩ := denL_run r ds' gt g pw (i + l.size + 1) ⟨(d, .bool vb) :: without (d :: l.dsts) s.e, without (d :: l.dsts) s.q, s.r, s1.σ⟩ κ res hrest hr'
        (hg.next (fun u hu => (hdst u hu).2.2) (fun u hu => hput u (hdst u hu).2.1 (hdst u hu).1)) (fun hd => (mk_grp (hmk hd)).2)
      have hg1 : Gd g gt s1.e (XL.grp t b l d ks (.tmp t) x y r).dsts := hg.next (fun _ hu => hu) (fun u hu => he1 u (hdst u hu).1)
      refine ⟨s', ?_, h2, h3, fun u hu => ?_, fun hpw u hu => ?_⟩
      · simp only [XL.flat, XL.lks]
        rw [zip_grp]
        refine hrun.append ?_
        rw [zip_len]
        refine .val _ ⟨some d, .pick (.tmp t) x y, g⟩ ks _ s1 s' true (.bool vb) s1.r s1.σ (hg1.wanted hks) (.p _ rfl fun _ => hp) (.inr (.inl rfl)) (fun _ h => by cases h) ?_
        refine .shrink _ _ _ s' ((d, .bool vb) :: without (d :: l.dsts) s.e) (without (d :: l.dsts) s.q) (fun u w hu => ?_) (fun u w hu => ?_) (by rw [hr1]; exact h1)
        · simp only [look, Nat.beq_eq] at hu
          rw [look_putE]
          by_cases hdu : d = u
          · rw [if_pos hdu] at hu; rw [if_pos (by rw [hdu])]; exact hu
          · rw [if_neg hdu, look_without] at hu
            rw [if_neg (by simpa using hdu)]
            split at hu
            · cases hu
            · rename_i hm
              rw [he1 u (mem_false.2 fun hh => hm ((memN_cons d _ u).2 (.inr hh)))]
              exact hu
        · rw [look_without] at hu
          split at hu
          · cases hu
          · rename_i hm
            show look (without1 (some d) s1.q) u = some w
            rw [look_without1, if_neg (fun hh => hm ((memN_cons d _ u).2 (.inl (by simpa using hh)))), hq1 u (mem_false.2 fun hh => hm ((memN_cons d _ u).2 (.inr hh)))]
            exact hu
      · rw [h4 u (hdst u hu).2.2]; exact hput u (hdst u hu).2.1 (hdst u hu).1
      · rw [h5 hpw u (hdst u hu).2.2]
        show look (without (d :: l.dsts) s.q) u = _
        rw [look_without, if_neg (fun hh => by rcases (memN_cons d _ u).1 hh with hh | hh; exact (hdst u hu).2.1 hh; rw [(hdst u hu).1] at hh; cases hh)]
    -- entered
    have taken : cb = b → ∀ (z : AO), (∀ e, opv e (.tmp t) = .bool cb → ∀ vb, opv e z = .bool vb → aopP (.pick (.tmp t) x y) e = some (.bool vb)) →
        (denL E D dr false n0 l i s.e s.q s.r s.σ fun e' _ _ σ' => getK (selE dr ks e') z fun v => rtBool v fun v =>
          denL E D dr pw n0 r (i + l.size + 1) ((d, .bool v) :: without (d :: l.dsts) s.e) (without (d :: l.dsts) s.q) s.r σ' κ) = some res →
        ∃ s', Run E D dr n0 i (((XL.grp t b l d ks (.tmp t) x y r).flat g).zip (XL.grp t b l d ks (.tmp t) x y r).lks) s s' ∧ κ s'.e s'.q s'.r s'.σ = some res ∧ (pw = false → s'.r = s.r) ∧
          (∀ u, memN (XL.grp t b l d ks (.tmp t) x y r).dsts u = false → look s'.e u = look s.e u) ∧ (pw = false → ∀ u, memN (XL.grp t b l d ks (.tmp t) x y r).dsts u = false → look s'.q u = look s.q u) := by
      intro hcb z hz hh
      subst hcb
      obtain ⟨s1, h1, h2, h3, h4, h5⟩ := denL_run l (some []) (some t) (some (t, cb)) false i s _ res hh hl (.inr ⟨t, cb, rfl, rfl, hte, hlt⟩) (fun hd => (mk_grp (hmk hd)).1)
      obtain ⟨v, hv, _, h2⟩ := getK_some h2
      obtain ⟨vb, rfl, h9⟩ := rtBool_some h2
      replace h2 := h9
      refine fin s1 vb h1 (h3 rfl) h4 (h5 rfl) (hz _ ?_ vb hv) h2
      simp only [opv, getE, look_selE hkt, h4 t hlt, hte]
    -- not entered
    have left : (cb == b) = false → ∀ (z : AO), (match z with | .tmp u => !memN l.dsts u | .con _ => true) = true → (∀ e, opv e (.tmp t) = .bool cb → ∀ vb, opv e z = .bool vb → aopP (.pick (.tmp t) x y) e = some (.bool vb)) →
        (getK (selE dr ks s.e) z fun v => rtBool v fun v =>
          denL E D dr pw n0 r (i + l.size + 1) ((d, .bool v) :: without (d :: l.dsts) s.e) (without (d :: l.dsts) s.q) s.r s.σ κ) = some res →
        ∃ s', Run E D dr n0 i (((XL.grp t b l d ks (.tmp t) x y r).flat g).zip (XL.grp t b l d ks (.tmp t) x y r).lks) s s' ∧ κ s'.e s'.q s'.r s'.σ = some res ∧ (pw = false → s'.r = s.r) ∧
          (∀ u, memN (XL.grp t b l d ks (.tmp t) x y r).dsts u = false → look s'.e u = look s.e u) ∧ (pw = false → ∀ u, memN (XL.grp t b l d ks (.tmp t) x y r).dsts u = false → look s'.q u = look s.q u) := by
      intro hcb z hz0 hz h
      obtain ⟨s1, h1, h2, h3, h4, _⟩ := skip_run (E := E) (D := D) (dr := dr) (n0 := n0) l [] t b i s hl (.inr ⟨cb, hte, hcb⟩) hlt (fun u hu => by simp [memN] at hu)
      obtain ⟨v, hv, _, h5⟩ := getK_some h
      obtain ⟨vb, rfl, h9⟩ := rtBool_some h5
      replace h5 := h9
      refine fin s1 vb h1 h2 (fun u hu => (h4 u hu).1) (fun u hu => (h4 u hu).2) (hz _ ?_ vb ?_) (by rw [h3]; exact h5)
      · simp only [opv, getE, look_selE hkt, (h4 t hlt).1, hte]
      · cases z with
        | con v => exact hv
        | tmp u =>
          simp only [Bool.not_eq_true'] at hz0
          simp only [opv, getE] at hv ⊢
          cases hq : look (selE dr ks s.e) u with
          | none => rw [hq] at hv; cases hv
          | some u2 =>
            rw [hq] at hv
            have hq1 : look (selE dr ks s1.e) u = some u2 := by
              cases dr with
              | true =>
                obtain ⟨h6, h7⟩ := look_restr _ _ _ _ hq
                show look (restr ks s1.e) u = _
                rw [look_restr_mem h7, (h4 u hz0).1]; exact h6
              | false =>
                show look s1.e u = _
                rw [(h4 u hz0).1]; exact hq
            rw [hq1]; exact hv
    have hpt : ∀ e, opv e (.tmp t) = .bool true → ∀ vb, opv e x = .bool vb → aopP (.pick (.tmp t) x y) e = some (.bool vb) := by
      intro e h1 vb h2
      simp only [aopP, h1, h2, V.live, if_true]
    have hpf : ∀ e, opv e (.tmp t) = .bool false → ∀ vb, opv e y = .bool vb → aopP (.pick (.tmp t) x y) e = some (.bool vb) := by
      intro e h1 vb h2
      simp only [aopP, h1, h2, V.live, if_true]
    unfold joinB at h
    cases b with
    | true =>
      simp only at h hother
      cases cb with
      | true => exact taken rfl x hpt h
      | false => exact left rfl y hother hpf h
    | false =>
      simp only at h hother
      cases cb with
      | true => exact left rfl x hother hpt h
      | false => exact taken rfl y hpf h
end Go.Og

set_option linter.unusedSimpArgs false
namespace Go.Og
variable {P : Program} {D : Den} {C : Cx} {R : Ren} {σ : H} {w w' : World}

theorem EnvL.put {e : Env} {a : Act} (h : EnvL R e a.tmps) {dst : Option Nat} (hd : dstOk a.tmps.size dst = true) {v : V} {x : Value} (hv : dst = none ∨ conc R v = some x) : EnvL R (putE e dst v) (a.put dst x).tmps := by
  cases dst with
  | none => exact h
  | some d =>
    simp only [dstOk, Nat.blt_eq] at hd
    refine ⟨fun k u hk => ?_⟩
    rw [look_putE] at hk
    simp only [Act.put, Array.getElem?_setIfInBounds]
    by_cases hdk : d = k
    · rw [if_pos (by rw [hdk])] at hk
      cases hk
      rw [if_pos hdk, if_pos hd]
      exact ⟨x, rfl, hv.resolve_left (by simp)⟩
    · rw [if_neg (by simpa using hdk)] at hk
      rw [if_neg hdk]
      exact h.at_ k u hk
theorem EnvL.del {e : Env} {a : Act} (h : EnvL R e a.tmps) (dst : Option Nat) (x : Value) : EnvL R (without1 dst e) (a.put dst x).tmps := by
  refine ⟨fun k u hk => ?_⟩
  rw [look_without1] at hk
  split at hk
  · cases hk
  · rename_i hne
    obtain ⟨y, h1, h2⟩ := h.at_ k u hk
    refine ⟨y, ?_, h2⟩
    cases dst with
    | none => exact h1
    | some d =>
      simp only [Act.put, Array.getElem?_setIfInBounds]
      rw [if_neg (by simpa using hne)]; exact h1
theorem QOk.del {B : Bs} {q : Qs} {a : Act} (h : QOk B q a.tmps) (dst : Option Nat) (x : Value) : QOk B (without1 dst q) (a.put dst x).tmps := by
  refine ⟨fun k m off hk => ?_⟩
  rw [look_without1] at hk
  split at hk
  · cases hk
  · rename_i hne
    obtain ⟨i, h1, h2⟩ := h.at_ k m off hk
    refine ⟨i, h1, ?_⟩
    cases dst with
    | none => exact h2
    | some d =>
      simp only [Act.put, Array.getElem?_setIfInBounds]
      rw [if_neg (by simpa using hne)]; exact h2
theorem QOk.mark {B : Bs} {q : Qs} {a : Act} (h : QOk B q a.tmps) {dst : Option Nat} (hd : dstOk a.tmps.size dst = true) {m off : Nat} {i : BI} (hB : B m = some i) :
    QOk B (putQ (without1 dst q) dst (m, off)) (a.put dst (.pointer (some ⟨i.blk, i.shift + off, none⟩))).tmps := by
  refine ⟨fun k m' off' hk => ?_⟩
  rw [look_putQ] at hk
  by_cases hdk : dst = some k
  · rw [if_pos hdk] at hk
    cases hk
    subst hdk
    simp only [dstOk, Nat.blt_eq] at hd
    exact ⟨i, hB, by simp [Act.put, Array.getElem?_setIfInBounds, hd]⟩
  · rw [if_neg hdk] at hk
    exact (h.del dst _).at_ k m' off' hk

theorem EnvL.sub {e e' : Env} {tmps : Array Value} (h : EnvL R e tmps) (hs : ∀ t v, look e' t = some v → look e t = some v) : EnvL R e' tmps :=
  ⟨fun k v hk => h.at_ k v (hs k v hk)⟩
theorem QOk.sub {B : Bs} {q q' : Qs} {tmps : Array Value} (h : QOk B q tmps) (hs : ∀ t v, look q' t = some v → look q t = some v) : QOk B q' tmps :=
  ⟨fun k m off hk => h.at_ k m off (hs k _ hk)⟩
theorem EnvL.sel {e : Env} {tmps : Array Value} (h : EnvL R e tmps) (dr : Bool) (ks : List Nat) : EnvL R (selE dr ks e) tmps := h.sub fun _ _ hk => selE_sub hk
theorem QOk.sel {B : Bs} {q : Qs} {tmps : Array Value} (h : QOk B q tmps) (dr : Bool) (ks : List Nat) : QOk B (selQ dr ks q) tmps := h.sub fun t v hk => by
  cases dr with
  | true => exact (look_restrQ _ _ _ _ hk).1
  | false => exact hk

/-- A block of the call's own is made. -/
theorem pal_ok {B : Bs} {r : Rg} (hm : MemI C R B r σ w) {a : Act} (o : Oper) {d : Nat} {el : TypeId} {z : List V} (ho : compOp P C.G o.op = .alloc el z) (K : Act → World → Prop) (Q : Exit → Act → World → Prop)
    (hK : ∀ i w', MemI C R (fun m => if m = d then some i else B m) ((d, z) :: without [d] r) σ w' → K (a.put o.dst (.pointer (some ⟨i.blk, i.shift + 0, none⟩))) w') : o.wp P a w K Q := by
  obtain ⟨hrel, hpriv⟩ := hm
  have hg := hrel.globOk
  have ha : aopA (compOp P C.G o.op) [] σ.next = some (.ptr σ.next 0, .cells z) := by rw [ho]; rfl
  have he0 : EnvOk R [] a.tmps := ⟨fun k v hk => by simp [look] at hk⟩
  obtain ⟨x, w', i, hrun, hn, hi, hx, hok⟩ := aopA_ok (a := a) (P := P) he0 hg o ha (hrel.fresh _ (Nat.le_refl _)) w
  have hcp : conc (upd R σ.next i) (.ptr σ.next 0) = some (.pointer (some ⟨i.blk, i.shift + 0, none⟩)) := conc_ptr_mk (upd_same _ _ _)
  rw [hcp] at hx; cases hx
  unfold Oper.wp; rw [hrun]
  have hle : Le R (upd R σ.next i) := (upd_ext R σ.next i).le hrel.fresh
  have hzc : ∃ zs, concs R z = some zs := by
    obtain ⟨dst, op, ty, pos, after, guard⟩ := o
    simp only at ho
    cases op <;> simp only [compOp] at ho <;> (try (first | (cases ho; done) | ((repeat' split at ho) <;> (cases ho; done))))
    · rename_i el' 
      split at ho
      · cases ho
      · rename_i z' _ hz
        simp only [AOp.alloc.injEq] at ho
        rw [← ho.2]
        unfold zeroO at hz
        split at hz
        · split at hz
          · exact ⟨_, absZ_ok R hz⟩
          · cases hz
        · cases hz
      · cases ho
    · rename_i fn _ _; cases fn <;> cases ho
    · rename_i r; cases r <;> cases ho
    · rename_i ok; cases ok
      · cases ho
      · simp only at ho; split at ho <;> cases ho
    · rename_i c
      obtain ⟨callee, cargs, argTypes⟩ := c
      simp only at ho
      split at ho
      · unfold compB at ho; (repeat' split at ho) <;> cases ho
      · cases ho
      · cases ho
      · cases ho
  obtain ⟨zs, hzs⟩ := hzc
  have hokR : OwnOk R i (.cells z) w' := by
    obtain ⟨arr, el', lo, hi', h1, h2, h3, h4, h5⟩ := hok
    refine ⟨arr, el', lo, hi', h1, fun k v hk => ?_, h3, h4, h5⟩
    obtain ⟨y, hy, hone, harr⟩ := h2 k v hk
    obtain ⟨y2, hy2, _⟩ := concs_get hzs hk
    have := conc_mono hle v y2 hy2
    rw [hy] at this; cases this
    exact ⟨_, hy2, hone, harr⟩
  have hO : C.O i.blk := by rw [hi]; exact hrel.new _ hrel.size
  have hrelw : Rel C R σ w' := hrel.frame (fun blk hb _ => hn.old blk hb) (by rw [hn.size]; omega) hn.os hn.tape hn.output
  refine hK i w' ⟨hrelw, ⟨fun m j hm => ?_, fun m m' j j' hm hm' hbl => ?_, fun m j hm k b j' hk hj' hbl => ?_⟩⟩
  · by_cases hmd : m = d
    · subst hmd
      rw [if_pos rfl] at hm; cases hm
      exact ⟨hO, z, by simp [look], hokR⟩
    · rw [if_neg hmd] at hm
      obtain ⟨hO', l, hl, hok'⟩ := hpriv.at_ m j hm
      refine ⟨hO', l, ?_, hok'.mono (Le.refl _) (hn.old _ hok'.lt)⟩
      simp only [look, Nat.beq_eq]
      rw [if_neg (Ne.symm hmd), look_without, if_neg (fun h => hmd ((memN_one d m).1 h).symm)]
      exact hl
  · by_cases hmd : m = d
    · by_cases hmd' : m' = d
      · rw [hmd, hmd']
      · exfalso
        rw [if_pos hmd] at hm; rw [if_neg hmd'] at hm'; cases hm
        have := hpriv.lt hm'; omega
    · by_cases hmd' : m' = d
      · exfalso
        rw [if_neg hmd] at hm; rw [if_pos hmd'] at hm'; cases hm'
        have := hpriv.lt hm; omega
      · rw [if_neg hmd] at hm; rw [if_neg hmd'] at hm'
        exact hpriv.inj m m' j j' hm hm' hbl
  · by_cases hmd : m = d
    · rw [if_pos hmd] at hm; cases hm
      obtain ⟨j2, hj2, _, hok2⟩ := hrel.own k b hk
      rw [hj'] at hj2; cases hj2
      have := hok2.lt; omega
    · rw [if_neg hmd] at hm
      exact hpriv.apart m j hm k b j' hk hj' hbl

/-- What holds between two operations. -/
def InvS (C : Cx) (nR : Nat) (R0 : Ren) (nt : Nat) (s : St) (a : Act) (w : World) : Prop :=
  ∃ R B, Ext nR R0 R ∧ nR ≤ s.σ.next ∧ MemI C R B s.r s.σ w ∧ EnvL R s.e a.tmps ∧ QOk B s.q a.tmps ∧ nt ≤ a.tmps.size ∧ a.defers = []

theorem QOk.pal {B : Bs} {q : Qs} {a : Act} (h : QOk B q a.tmps) {d : Nat} (hd : dstOk a.tmps.size (some d) = true) (i : BI) :
    QOk (fun m => if m = d then some i else B m) ((d, (d, 0)) :: unmark d (without [d] q)) (a.put (some d) (.pointer (some ⟨i.blk, i.shift + 0, none⟩))).tmps := by
  refine ⟨fun k m off hk => ?_⟩
  simp only [look, Nat.beq_eq] at hk
  simp only [dstOk, Nat.blt_eq] at hd
  by_cases hdk : d = k
  · rw [if_pos hdk] at hk
    cases hk
    exact ⟨i, by simp, by simp [Act.put, Array.getElem?_setIfInBounds, hdk, hdk ▸ hd]⟩
  · rw [if_neg hdk] at hk
    obtain ⟨h1, h2⟩ := look_unmark _ _ _ _ hk
    rw [look_without] at h2
    split at h2
    · cases h2
    · obtain ⟨j, h3, h4⟩ := h.at_ k m off h2
      refine ⟨j, by rw [if_neg h1]; exact h3, ?_⟩
      simp only [Act.put, Array.getElem?_setIfInBounds]
      rw [if_neg hdk]; exact h4

theorem run_seq (hD : ∀ f, SoundFn P C.E C.G f (D f)) {nR : Nat} {R0 : Ren} {nt n0 : Nat} {ops : Array Oper} {Q : Exit → Act → World → Prop} :
    ∀ {i : Nat} {fl : List (AOper × List Nat)} {s s' : St}, Run C.E D false n0 i fl s s' → ∀ (l : List Oper) (a : Act) (w : World), l.map (compOper P C.G nt ops) = fl.map Prod.fst → InvS C nR R0 nt s a w →
      (∀ a' w', InvS C nR R0 nt s' a' w' → Q .normal a' w') → wpList P ops Q l a w := by
  intro i fl s s' h
  have good : ∀ (o : Oper) (l : List Oper) (ao : AOper) (fl : List AOper), (o :: l).map (compOper P C.G nt ops) = ao :: fl → (∃ e, ∃ (b : Bool), wantedA e ao.guard = some b ∧ (b = true → ao.op ≠ .bad)) →
      ao.dst = o.dst ∧ ao.op = compOp P C.G o.op ∧ dstOk nt o.dst = true ∧ compG ops o.guard = some ao.guard ∧ l.map (compOper P C.G nt ops) = fl := by
    intro o l ao fl hm ⟨e, b, hw, hb⟩
    simp only [List.map_cons, List.cons.injEq] at hm
    obtain ⟨h1, h2⟩ := hm
    unfold compOper at h1
    split at h1
    · rename_i g hg hd
      subst h1
      exact ⟨rfl, rfl, hd, hg, h2⟩
    · exfalso
      subst h1
      simp only [wantedA, Option.some.injEq] at hw
      exact hb hw.symm rfl
  have nostep : ∀ {pw id nx e q r σ out}, Live e → ¬ Step C.E D pw id nx .bad e q r σ out := by
    intro pw id nx e q r σ out hlive h
    cases h with
    | p v hc h =>
      have := h hlive
      cases this
    | l v hc h => cases hc
    | a v b hc h => cases hc
    | k v σ1 σ2 hc h hs => cases hc
    | mv x m off ho hm => rcases ho with ho | ho <;> cases ho
    | fa d x m off ho hm => cases ho
    | ld x m off l v ho hm hl h => cases ho
    | ldn n x m off l ho hm hl h => cases ho
    | st n x y m off l cs u hw ho hm hl hn hu hlu hcs h1 hlen h => cases ho
  induction h with
  | nil i s =>
    intro l a w hl hI hQ
    cases l with
    | nil => exact hQ a w hI
    | cons o l => simp at hl
  | shrink i fl s s' e q he hq _ ih =>
    intro l a w hl hI hQ
    obtain ⟨R, B, h1, h2, h3, h4, h5, h6, h7⟩ := hI
    exact ih l a w hl ⟨R, B, h1, h2, h3, h4.sub he, h5.sub hq, h6, h7⟩ hQ
  | skip i o ks fl s s' hw _ ih =>
    intro l a w hl hI hQ
    cases l with
    | nil => simp at hl
    | cons oo l =>
      obtain ⟨g1, g2, g3, g4, g5⟩ := good oo l o _ hl ⟨_, false, hw, fun h => by cases h⟩
      obtain ⟨R, B, h1, h2, h3, h4, h5, h6, h7⟩ := hI
      have hdst := dstOk_mono g3 h6
      unfold wpList
      rw [if_neg (by rw [wanted_ok (h4.sel false ks).env g4 hw]; simp)]
      refine ih l _ w g5 ⟨R, B, h1, h2, h3, ?_, ?_, by rw [size_put]; exact h6, by rw [defers_put]; exact h7⟩ hQ
      · rw [g1]; exact h4.put hdst (.inr rfl)
      · rw [g1]; exact h5.del _ _
  | val i o ks fl s s' pw v r' σ' hw hs hlv _ _ ih =>
    intro l a w hl hI hQ
    cases l with
    | nil => simp at hl
    | cons oo l =>
      obtain ⟨R, B, h1, h2, h3, h4, h5, h6, h7⟩ := hI
      obtain ⟨g1, g2, g3, g4, g5⟩ := good oo l o _ hl ⟨_, true, hw, fun _ hb => nostep (h4.sel false ks).live (hb ▸ hs)⟩
      have hdst := dstOk_mono g3 h6
      unfold wpList
      rw [if_pos (wanted_ok (h4.sel false ks).env g4 hw)]
      left
      rw [g2] at hs
      refine step_ok hD h3 (h4.sel false ks) (h5.sel false ks) oo (h3.rel.fresh _ (Nat.le_refl _)) (Nat.lt_succ_self _) (Nat.le_succ _) hs _ Q (fun v2 r2 σ2 heq R' w' x hle hk hn hmem hv => ?_) (fun m off heq => by cases heq)
      cases heq
      have hx : Ext s.σ.next R R' := fun k hk1 => hk k hk1 (by intro he; subst he; exact Nat.lt_irrefl _ hk1)
      refine ih l _ w' g5 ⟨R', B, h1.trans hx h2, Nat.le_trans h2 hn, hmem, ?_, ?_, by rw [size_put]; exact h6, by rw [defers_put]; exact h7⟩ hQ
      · rw [g1] at hlv ⊢
        refine (h4.mono hle).put hdst ?_
        rcases hv with ⟨rfl, hc⟩ | hv
        · rcases hlv with h | h | h
          · exact .inl h
          · cases h
          · rw [g2] at h; exact (h hc).elim
        · exact .inr hv
      · rw [g1]; exact h5.del _ _
  | mark i o ks fl s s' pw id nx m off hw hs _ ih =>
    intro l a w hl hI hQ
    cases l with
    | nil => simp at hl
    | cons oo l =>
      obtain ⟨R, B, h1, h2, h3, h4, h5, h6, h7⟩ := hI
      obtain ⟨g1, g2, g3, g4, g5⟩ := good oo l o _ hl ⟨_, true, hw, fun _ hb => nostep (h4.sel false ks).live (hb ▸ hs)⟩
      have hdst := dstOk_mono g3 h6
      unfold wpList
      rw [if_pos (wanted_ok (h4.sel false ks).env g4 hw)]
      left
      rw [g2] at hs
      have hs2 : Step C.E D pw s.σ.next (s.σ.next + 1) (compOp P C.G oo.op) (selE false ks s.e) (selQ false ks s.q) s.r s.σ (.mark m off) := by
        cases hs with
        | mv x m off ho hm => exact .mv x m off ho hm
        | fa d x m off ho hm => exact .fa d x m off ho hm
      refine step_ok hD h3 (h4.sel false ks) (h5.sel false ks) oo (h3.rel.fresh _ (Nat.le_refl _)) (Nat.lt_succ_self _) (Nat.le_succ _) hs2 _ Q (fun v2 r2 σ2 heq => by cases heq) (fun m2 off2 heq ii hB => ?_)
      cases heq
      refine ih l _ w g5 ⟨R, B, h1, h2, h3, ?_, ?_, by rw [size_put]; exact h6, by rw [defers_put]; exact h7⟩ hQ
      · rw [g1]; exact h4.del _ _
      · rw [g1]; exact h5.mark hdst hB
  | pal i o ks fl s s' d el z hd ho hw _ ih =>
    intro l a w hl hI hQ
    cases l with
    | nil => simp at hl
    | cons oo l =>
      obtain ⟨g1, g2, g3, g4, g5⟩ := good oo l o _ hl ⟨_, true, hw, fun _ hb => by rw [ho] at hb; cases hb⟩
      obtain ⟨R, B, h1, h2, h3, h4, h5, h6, h7⟩ := hI
      have hdst := dstOk_mono g3 h6
      unfold wpList
      rw [if_pos (wanted_ok (h4.sel false ks).env g4 hw)]
      left
      rw [g2] at ho
      rw [hd] at g1
      refine pal_ok h3 oo (d := d) ho _ Q (fun ii w' hmem => ?_)
      rw [← g1] at hdst ⊢
      refine ih l _ w' g5 ⟨R, _, h1, h2, hmem, ?_, ?_, by rw [size_put]; exact h6, by rw [defers_put]; exact h7⟩ hQ
      · exact h4.del (some d) _
      · exact h5.pal hdst ii
end Go.Og

set_option linter.unusedSimpArgs false
namespace Go.Og
variable {P : Program} {E : List (Nat × Blk)} {D : Den} {C : Cx} {R : Ren} {σ : H} {w w' : World}

inductive Oc where
  | val (v : V)
  | mark (m off : Nat)
  | pal (d : Nat) (z : List V)

def SubSt (s2 s1 : St) : Prop := (∀ t v, look s2.e t = some v → look s1.e t = some v) ∧ (∀ t v, look s2.q t = some v → look s1.q t = some v) ∧ s2.r = s1.r ∧ s2.σ = s1.σ
theorem SubSt.refl (s : St) : SubSt s s := ⟨fun _ _ h => h, fun _ _ h => h, rfl, rfl⟩

/-- What the operation o does between two states. -/
inductive At (E : List (Nat × Blk)) (D : Den) (s : St) (o : AOper) (ks : List Nat) : Oc → Bool → St → Prop where
  | skip (s2 : St) (hw : wantedA (selE true ks s.e) o.guard = some false) (h : SubSt s2 ⟨putE s.e o.dst undefV, without1 o.dst s.q, s.r, s.σ⟩) : At E D s o ks (.val undefV) false s2
  | val (s2 : St) (pw : Bool) (v : V) (r' : Rg) (σ' : H) (hw : wantedA (selE true ks s.e) o.guard = some true) (hs : Step E D pw s.σ.next (s.σ.next + 1) o.op (selE true ks s.e) (selQ true ks s.q) s.r s.σ (.val v r' σ'))
      (hl : o.dst = none ∨ v.live = true ∨ o.op.cls ≠ .k) (hna : o.op.cls ≠ .a) (h : SubSt s2 ⟨putE s.e o.dst v, without1 o.dst s.q, r', σ'⟩) : At E D s o ks (.val v) true s2
  | mark (s2 : St) (pw : Bool) (id nx m off : Nat) (hw : wantedA (selE true ks s.e) o.guard = some true) (hs : Step E D pw id nx o.op (selE true ks s.e) (selQ true ks s.q) s.r s.σ (.mark m off))
      (h : SubSt s2 ⟨without1 o.dst s.e, putQ (without1 o.dst s.q) o.dst (m, off), s.r, s.σ⟩) : At E D s o ks (.mark m off) true s2
  | pal (s2 : St) (d : Nat) (el : TypeId) (z : List V) (hd : o.dst = some d) (ho : o.op = .alloc el z) (hw : wantedA (selE true ks s.e) o.guard = some true)
      (h : SubSt s2 ⟨without [d] s.e, (d, (d, 0)) :: unmark d (without [d] s.q), (d, z) :: without [d] s.r, s.σ⟩) : At E D s o ks (.pal d z) true s2

theorem At.pre {s : St} {o : AOper} {ks : List Nat} {oc : Oc} {ex : Bool} {s2 s2' : St} (h : At E D s o ks oc ex s2) (hs : SubSt s2' s2) : At E D s o ks oc ex s2' := by
  have tr : ∀ {a : St}, SubSt s2 a → SubSt s2' a := fun h => ⟨fun t v hv => h.1 t v (hs.1 t v hv), fun t v hv => h.2.1 t v (hs.2.1 t v hv), hs.2.2.1.trans h.2.2.1, hs.2.2.2.trans h.2.2.2⟩
  cases h with
  | skip _ hw h => exact .skip _ hw (tr h)
  | val _ pw v r' σ' hw hs hl hna h => exact .val _ pw v r' σ' hw hs hl hna (tr h)
  | mark _ pw id nx m off hw hs h => exact .mark _ pw id nx m off hw hs (tr h)
  | pal _ d el z hd ho hw h => exact .pal _ d el z hd ho hw (tr h)

theorem run_chain {n0 : Nat} : ∀ {i : Nat} {fl : List (AOper × List Nat)} {s s' : St}, Run E D true n0 i fl s s' →
    ∃ (sts : Nat → St) (oc : Nat → Oc) (ex : Nat → Bool), SubSt (sts 0) s ∧ s' = sts fl.length ∧ ∀ (k : Nat) (o : AOper) (ks : List Nat), fl[k]? = some (o, ks) → At E D (sts k) o ks (oc k) (ex k) (sts (k + 1)) := by
  intro i fl s s' h
  have cons : ∀ (s s1 : St) (o : AOper) (ks : List Nat) (l : List (AOper × List Nat)) (c : Oc) (x : Bool), (∀ s2, SubSt s2 s1 → At E D s o ks c x s2) →
      (∃ (sts : Nat → St) (oc : Nat → Oc) (ex : Nat → Bool), SubSt (sts 0) s1 ∧ s' = sts l.length ∧ ∀ (k : Nat) (o : AOper) (ks : List Nat), l[k]? = some (o, ks) → At E D (sts k) o ks (oc k) (ex k) (sts (k + 1))) →
      ∃ (sts : Nat → St) (oc : Nat → Oc) (ex : Nat → Bool), SubSt (sts 0) s ∧ s' = sts ((o, ks) :: l).length ∧ ∀ (k : Nat) (o' : AOper) (ks' : List Nat), ((o, ks) :: l)[k]? = some (o', ks') → At E D (sts k) o' ks' (oc k) (ex k) (sts (k + 1)) := by
    rintro s s1 o ks l c x hat ⟨sts, oc, ex, h1, h2, h3⟩
    refine ⟨fun k => Nat.casesOn k s sts, fun k => Nat.casesOn k c oc, fun k => Nat.casesOn k x ex, SubSt.refl s, h2, fun k o' ks' hk => ?_⟩
    cases k with
    | zero =>
      simp only [List.getElem?_cons_zero, Option.some.injEq, Prod.mk.injEq] at hk
      obtain ⟨rfl, rfl⟩ := hk
      exact hat _ h1
    | succ k =>
      simp only [List.getElem?_cons_succ] at hk
      exact h3 k o' ks' hk
  induction h with
  | nil i s => exact ⟨fun _ => s, fun _ => .val .dead, fun _ => false, SubSt.refl s, rfl, fun k o ks hk => by simp at hk⟩
  | skip i o ks l s s' hw _ ih => exact cons s _ o ks l _ _ (fun s2 hs => .skip s2 hw hs) (ih (cons := cons))
  | val i o ks l s s' pw v r' σ' hw hs hl hna _ ih => exact cons s _ o ks l _ _ (fun s2 h2 => .val s2 pw v r' σ' hw hs hl (hna rfl) h2) (ih (cons := cons))
  | mark i o ks l s s' pw id nx m off hw hs _ ih => exact cons s _ o ks l _ _ (fun s2 h2 => .mark s2 pw id nx m off hw hs h2) (ih (cons := cons))
  | pal i o ks l s s' d el z hd ho hw _ ih => exact cons s _ o ks l _ _ (fun s2 h2 => .pal s2 d el z hd ho hw h2) (ih (cons := cons))
  | shrink i l s s' e q he hq _ ih =>
    obtain ⟨sts, oc, ex, h1, h2, h3⟩ := ih (cons := cons)
    exact ⟨sts, oc, ex, ⟨fun t v hv => he t v (h1.1 t v hv), fun t v hv => hq t v (h1.2.1 t v hv), h1.2.2.1, h1.2.2.2⟩, h2, h3⟩

/-- A step, behind which the same cells of the call's own stand. -/
theorem step_move {pw : Bool} {id nx : Nat} {o : AOp} {e : Env} {q : Qs} {r r' rL : Rg} {σ' : H} {v : V} (h : Step E D pw id nx o e q r σ (.val v r' σ')) (hr : ∀ x m off, markX q x = some (m, off) → look rL m = look r m) :
    ∃ rL', Step E D pw id nx o e q rL σ (.val v rL' σ') ∧ ((r' = r ∧ rL' = rL) ∨ ∃ x m off c l, markX q x = some (m, off) ∧ look r m = some l ∧ r' = repl r m c ∧ rL' = repl rL m c) := by
  cases h with
  | p _ hc h => exact ⟨rL, .p v hc h, .inl ⟨rfl, rfl⟩⟩
  | l _ hc h => exact ⟨rL, .l v hc h, .inl ⟨rfl, rfl⟩⟩
  | a _ b hc h => exact ⟨rL, .a v b hc h, .inl ⟨rfl, rfl⟩⟩
  | k _ σ1 _ hc h hs => exact ⟨rL, .k v σ1 σ' hc h hs, .inl ⟨rfl, rfl⟩⟩
  | ld x m off l _ ho hm hl h => exact ⟨rL, .ld x m off l v ho hm (by rw [hr x m off hm]; exact hl) h, .inl ⟨rfl, rfl⟩⟩
  | ldn n x m off l ho hm hl h => exact ⟨rL, .ldn n x m off l ho hm (by rw [hr x m off hm]; exact hl) h, .inl ⟨rfl, rfl⟩⟩
  | st n x y m off l cs u hw ho hm hl hn hu hlu hcs h1 hlen h => exact ⟨_, .st n x y m off l cs u hw ho hm (by rw [hr x m off hm]; exact hl) hn hu hlu hcs h1 hlen h, .inr ⟨x, m, off, _, l, hm, hl, rfl, rfl⟩⟩

/-- A step that writes nothing leaves memory as it was. -/
theorem step_still {pw : Bool} {id nx : Nat} {o : AOp} {e : Env} {q : Qs} {r r' : Rg} {σ' : H} {v : V} (h : Step E D pw id nx o e q r σ (.val v r' σ')) (hk : o.cls ≠ .k) (ha : o.cls ≠ .a) : r' = r ∧ σ' = σ := by
  cases h with
  | p _ hc h => exact ⟨rfl, rfl⟩
  | l _ hc h => exact ⟨rfl, rfl⟩
  | a _ b hc h => exact (ha hc).elim
  | k _ σ1 _ hc h hs => exact (hk hc).elim
  | ld x m off l _ ho hm hl h => exact ⟨rfl, rfl⟩
  | ldn n x m off l ho hm hl h => exact ⟨rfl, rfl⟩
  | st n x y m off l cs u hw ho hm hl hn hu hlu hcs h1 hlen h => exact (hk (by rw [ho]; rfl)).elim

theorem mark_any {pw : Bool} {id nx id' nx' : Nat} {o : AOp} {e : Env} {q : Qs} {r rL : Rg} {σ σL : H} {m off : Nat} (h : Step E D pw id nx o e q r σ (.mark m off)) : Step E D pw id' nx' o e q rL σL (.mark m off) := by
  cases h with
  | mv x _ _ ho hm => exact .mv x m off ho hm
  | fa d x _ off ho hm => exact .fa d x m off ho hm
theorem mark_root {pw : Bool} {id nx : Nat} {o : AOp} {e : Env} {q : Qs} {r : Rg} {m off : Nat} (h : Step E D pw id nx o e q r σ (.mark m off)) : ∃ x off', markX q x = some (m, off') := by
  cases h with
  | mv x _ _ ho hm => exact ⟨x, off, hm⟩
  | fa d x _ off ho hm => exact ⟨x, off, hm⟩

theorem pals_mem : ∀ (l : XL) (g : Option (Nat × Bool)), l.makes = false → ∀ o ∈ l.flat g, ∀ d, o.op.cls = .a → o.dst = some d → memN l.pals d = true
  | .nil, g, h, o, ho, d, hc, hd => by simp [XL.flat] at ho
  | .op dd ty ks op r, g, h, o, ho, d, hc, hd => by
    obtain ⟨h1, h2⟩ := mk_op h
    simp only [XL.flat, List.mem_cons] at ho
    rcases ho with rfl | ho
    · exact (h1 hc).elim
    · exact pals_mem r g h2 o ho d hc hd
  | .pal dd ks el z r, g, h, o, ho, d, hc, hd => by
    simp only [XL.flat, List.mem_cons] at ho
    simp only [XL.pals]
    rw [memN_cons]
    rcases ho with rfl | ho
    · left; simpa using hd
    · right; exact pals_mem r g h o ho d hc hd
  | .grp t b l dd ks c x y r, g, h, o, ho, d, hc, hd => by
    obtain ⟨h1, h2⟩ := mk_grp h
    simp only [XL.flat, List.mem_append, List.mem_cons] at ho
    simp only [XL.pals]
    rw [memN_append]
    rcases ho with ho | rfl | ho
    · left; exact pals_mem l _ h1 o ho d hc hd
    · cases hc
    · right; exact pals_mem r g h2 o ho d hc hd
theorem palsOk_mem {q : Qs} : ∀ {l : List Nat}, palsOk q l = true → ∀ d, memN l d = true → ∀ t off, look q t ≠ some (d, off)
  | [], _, d, hd => by simp [memN] at hd
  | a :: l, h, d, hd => by
    simp only [palsOk, Bool.and_eq_true] at h
    intro t off hl
    rcases (memN_cons a l d).1 hd with rfl | hd
    · have hm : marked a q = [] := by simpa using h.1
      have := marked_not (m := a) (q := q) (t := t) (p := (a, off)) (by rw [hm]; rfl) hl
      exact this rfl
    · exact palsOk_mem h.2 d hd t off hl
end Go.Og
